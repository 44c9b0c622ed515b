/- Part 2. -/
import Derived.Test.YtoinjplollnohaaGreatTuW1
open Go.IntKind (i64 u8 u64)
open List (length getD take drop replicate set map isEmpty)
noncomputable section
namespace Go.Pf
open Go
def Qq (agg:Bool) (n esz:Nat) (cs:List PV) (j:Int) (K:PV→Prop):Prop:=
 aB (!agg&&(Nat.beq esz 1&&(Nat.beq n cs.length&&HC cs))) (aB (decide (0≤j)) (aB (decide (j<(n:Int))) (K (.int .u8 (aC (cs.getD j.toNat .nils))))))
def Qr (H:Hp) (x:PV) (K:List PV→Prop):Prop:=
 match x with
 | .nils | .emp=>K []
 | .data rows=>K rows
 | .own id lo len ext _=>
  (match H[id]? with
   | some b=>aB (decide (b.rows.length=ext)) (aB (decide (lo+len≤ext)) (K ((b.rows.drop lo).take len)))
   | none=>False)
 | _=>False
def EI (H:Hp) (pu:Bool) (esz bytes:Nat) (rows:List PV) (K:PV→Hp→Prop):Prop:=
 aB (decide ((rows.length+64)*(bytes+1)≤room)) (K (.own H.length 0 rows.length rows.length none) (H++[⟨false,pu,esz,rows⟩]))
def Cl (md:Nat) (H:Hp) (pu:Bool) (esz bytes:Nat) (s:PV) (ys:List PV) (K:PV→Hp→Prop):Prop:=
 match s with
 | .nils=>aA ys.isEmpty (K .nils H) (EI H pu esz bytes ys K)
 | .emp=>aA ys.isEmpty (K .emp H) (EI H pu esz bytes ys K)
 | .own id lo len ext cap=>
  (match H[id]? with
   | some b=>
    aB (decide (b.rows.length=ext)) (aB (decide (b.pu=pu)&&decide (b.esz=esz)) (aB (decide (lo+len≤ext))
     (aA ys.isEmpty (K (.own id lo len ext cap) H)
      (match cap with
       | some c=>
        let W1:=aB (!b.fz) (K (.own id lo (len+ys.length) ext cap) (H.set id { b with rows:=b.rows.take (lo+len)++(ys++b.rows.drop (lo+len+ys.length)) }));let W2:=EI H pu esz bytes ((b.rows.drop lo).take len++ys) K
        (match md with
         | 9=>aA (decide (len+ys.length≤c)) W1 W2
         | 8=>aA (decide (len+ys.length≤c)) W1 W2
         | 2=>aB (!decide (len+ys.length≤c)) W2
         | _=>aB (decide (len+ys.length≤c)) W1)
       | none=>
        let W1:=K (.own id lo (len+ys.length) ext none) (H.set id { b with rows:=b.rows.take (lo+len)++(ys++b.rows.drop (lo+len+ys.length)) });let W3:=aB (decide (lo=0)) (aB (decide (len=ext)) (aB (decide ((ext+ys.length+64)*(bytes+1)≤room))
          (K (.own id 0 (b.rows++ys).length (b.rows++ys).length none) (H.set id { b with rows:=b.rows++ys }))))
        let W4:=aB (decide (lo=0)) (aB (decide (len≤ext)) (aB (decide ((len+ys.length+64)*(bytes+1)≤room))
          (K (.own id 0 (len+ys.length) (len+ys.length) none) (H.set id { b with rows:=b.rows.take len++ys }))))
        aB (!b.fz) (match md with
         | 9=>aA (decide (lo+len+ys.length≤ext)) W1 W3
         | 8=>aA (decide (lo+len+ys.length≤ext)) W1 W4
         | 1=>aB (decide (lo+len+ys.length≤ext)) W1
         | _=>aB (!decide (lo+len+ys.length≤ext)) W3)))))
   | none=>False)
 | _=>False
def Qs (H:Hp) (esz:Nat) (lo hi mx:Option Int) (x:PV) (K:PV→Prop):Prop:=
 match x with
 | .nils=>aB (decide (lo.getD 0=0)&&(decide (hi.getD 0=0)&&decide (mx.getD 0=0))) (K .nils)
 | .emp=>aB (decide (lo.getD 0=0)&&(decide (hi.getD 0=0)&&decide (mx.getD 0=0))) (K .emp)
 | .data rows=>
  let h:=hi.getD rows.length;let l:=lo.getD 0
  (match mx with
   | none=>aB (decide (0≤l)) (aB (decide (l≤h)) (aB (decide (h≤rows.length)) (aB (decide (l=0)||iY esz rows) (K (.data ((rows.take h.toNat).drop l.toNat))))))
   | some m=>aB (decide (0≤l)) (aB (decide (l≤h)) (aB (decide (h≤m)) (aB (decide (m≤rows.length)) (aB (decide (l=0)||iY esz rows)
      (aA (decide (l=m)) (K .emp) (K (.data ((rows.take h.toNat).drop l.toNat)))))))))
 | .own id lo0 len ext cap=>
  let h:=hi.getD len;let l:=lo.getD 0
  (match H[id]? with
   | some b=>aB (b.esz==esz)
    (match mx with
     | none=>aB (decide (0≤l)) (aB (decide (l≤h)) (aB (decide (h≤len)||decide (h≤BT len cap)) (K (.own id (lo0+l.toNat) (h-l).toNat ext (cap.map fun c=>c-l.toNat)))))
     | some m=>aB (decide (0≤l)) (aB (decide (l≤h)) (aB (decide (h≤m)) (aB (decide (m≤len)||decide (m≤BT len cap)) (K (.own id (lo0+l.toNat) (h-l).toNat ext (some (m-l).toNat)))))))
   | none=>False)
 | _=>False
def yL (sh:Sh) (rows:List PV) (i:Nat) (K:PV→Prop):Prop:=
 match sh with
 | .raw=>(match rows[i]? with | some r=>K r | none=>False)
 | sh=>aB (decide (i<rows.length)) (aB (aE sh (rows.getD i .nils)) (K (rJ sh (rows.getD i .nils))))
def J6:List Cs→Bool
 | []=>true
 | .i _::r=>J6 r
 | _=>false
def shL (sh:Sh) (esz sz:Nat):Sh:=
 match sh with
 | .agg l=>bif !(Nat.beq esz sz)&&(Nat.beq l.length sz&&J6 l) then .raw else .agg l
 | x=>x
def J7:List Cs→Bool
 | []=>false
 | .d::_=>true
 | _::r=>J7 r
def J8 (sh:Sh) (pu:Bool):Sh:=
 match sh with
 | .agg l=>bif !pu&&J7 l then .raw else .agg l
 | x=>x
def kZ (E:Env) (callK:CK) (a:An) (F:aG) (H:Hp) (o:AOp) (K:OK):Prop:=
 match o with
 | .pick c x y=>
  (match evV E F c with
   | some (.bool t)=>aA t (match evV E F x with | some p=>wv H K p | none=>False) (match evV E F y with | some p=>wv H K p | none=>False)
   | _=>False)
 | .bin op x y=>
  (match evV E F x,evV E F y with
   | some (.int k p),some (.int k' q)=>Cj op k k' p q (wv H K)
   | _,_=>False)
 | .load agg sz x=>
  (match ev E F x with
   | some (.v (.ptr id ext i off))=>
    (match H[id]? with
     | some b=>aB (decide (b.rows.length=ext)) (yL (J8 (shL a.sh b.esz sz) b.pu) b.rows i fun row=>match yhp agg sz row off with | some p=>wv H K p | none=>False)
     | none=>False)
   | _=>(match yaI E Hy F H (.load agg sz x) with | some ⟨x,bx,H'⟩=>K x bx H' | none=>False))
 | .store sz x y=>
  (match ev E F x with
   | some (.v (.ptr id ext i off))=>
    (match evV E F y with
     | some p=>
       (match H[id]? with
        | some b0=>
         HA b0.pu H p fun q H'=>
          (match H'[id]? with
           | some b=>aB (decide (b.rows.length=ext)) (aB (!b.fz) (yL (J8 a.sh b.pu) b.rows i fun row=>match yli row off sz q with
            | some row'=>K none none (H'.set id { b with rows:=b.rows.set i row' })
            | none=>False))
           | none=>False)
        | none=>False)
     | none=>False)
   | _=>(match yaI E Hy F H (.store sz x y) with | some ⟨x,bx,H'⟩=>K x bx H' | none=>False))
 | .iad esz x i=>
  (match evV E F x,yhE E F i with
   | some (.data rows),some n=>
    aB (decide (0≤n)) (aB (decide (n<rows.length)) (aB (aE a.sh (rows.getD n.toNat .nils)) (aB (decide ((rJ a.sh (rows.getD n.toNat .nils)).cells.length=esz)) (wv H K (.eptr [rJ a.sh (rows.getD n.toNat .nils)] 0 0)))))
   | some (.own id lo len ext _),some n=>
    (match H[id]? with
     | some b=>aB (decide (0≤n)) (aB (decide (n<len)) (aB (decide (b.esz=esz)) (wv H K (.ptr id ext (lo+n.toNat) 0))))
     | none=>False)
   | some (.sub id ext r off m e),some j=>aB (Nat.beq e esz) (AS m j (fun k=>wv H K (.ptr id ext r (off+k*esz))) m)
   | _,_=>False)
 | .iadA n esz x i=>
  (match ev E F x,yhE E F i with
   | some (.bp s o),some j=>AS n j (fun k=>K (some (.bp s (o+k*esz))) none H) n
   | some (.v (.ptr id e r o)),some j=>AS n j (fun k=>wv H K (.ptr id e r (o+k*esz))) n
   | some (.v (.eptr rows r o)),some j=>AS n j (fun k=>wv H K (.eptr rows r (o+k*esz))) n
   | _,_=>False)
 | .idx agg n esz x i=>
  (match evV E F x,yhE E F i with
   | some (.agg cs),some j=>(match x with
    | .c _=>Qq agg n esz cs j (wv H K)
    | _=>AS n j (fun k=>match yhp agg esz (.agg cs) (k*esz) with | some p=>wv H K p | none=>False) n)
   | _,_=>False)
 | .slc esz x lo hi mx=>
  (match evV E F x,pF E F lo,pF E F hi,pF E F mx with
   | some p,some l,some h,some m=>(match (m.isSome&&h.isNone) with | true=>False | false=>Qs H esz l h m p (wv H K))
   | _,_,_,_=>False)
 | .mkSl pu esz bytes z l c=>
  (match yhE E F l,yhE E F c with
   | some l,some c=>aB (decide (0≤l)) (aB (decide (l≤c)) (aB (decide ((c.toNat+64)*(bytes+1)≤room))
      (K (some (.v (.own H.length 0 l.toNat c.toNat (some c.toNat)))) none (H++[⟨false,pu,esz,replicate c.toNat z⟩]))))
   | _,_=>False)
 | .app pu esz bytes s x=>
  (match evV E F s,evV E F x with
   | some s,some x=>Qr H x fun ys=>aB (iY esz ys) (aB (sU H pu x) (Cl a.md H pu esz bytes s ys fun r H'=>K (some (.v r)) none H'))
   | _,_=>False)
 | .appZ pu esz bytes z s n=>
  (match evV E F s,yhE E F n with
   | some .nils,some k=>aB (decide (0≤k)) (aA (decide (k.toNat=0)) (wv H K .nils) (EI H pu esz bytes (replicate k.toNat z) fun r H'=>K (some (.v r)) none H'))
   | _,_=>False)
 | .eqN neg x=>
  (match evV E F x with
   | some .nils=>wv H K (.bool (bif neg then false else true))
   | some (.mt b)=>wv H K (.bool (bif neg then !b else b))
   | some (.data rows)=>aB (!rows.isEmpty) (wv H K (.bool neg))
   | some (.own _ _ _ _ _)=>wv H K (.bool neg)
   | _=>False)
 | .clr pu esz z x=>
  (match evV E F x with
   | some .nils=>wv H K (.tup [])
   | some .emp=>wv H K (.tup [])
   | some (.mt _)=>wv H K (.tup [])
   | some (.own id lo len ext _)=>(match H[id]? with
    | some b=>aA (decide (len=0)) (wv H K (.tup [])) (aB (decide (b.rows.length=ext)) (aB (decide (lo+len≤ext)) (aB (!b.fz) (aB (b.pu==pu) (aB (Nat.beq b.esz esz) (K (some (.v (.tup []))) none (H.set id { b with rows:=b.rows.take lo++(replicate len z++b.rows.drop (lo+len)) })))))))
    | none=>False)
   | _=>False)
 | .boxH pu esz x=>
  (match evV E F x with
   | some p=>HA pu H p fun q H'=>aB (Nat.beq q.cells.length esz&&kJ q.cells) (K (some (.v (.ptr H'.length 1 0 0))) none (H'++[⟨false,pu,esz,[q]⟩]))
   | none=>False)
 | .bSl pu esz z len parts=>
  (match len with
   | 0=>wv H K .emp
   | len+1=>EH E F pu esz (replicate (len+1) z) H parts fun rows H'=>K (some (.v (.own H'.length 0 (len+1) (len+1) (some (len+1))))) none (H'++[⟨false,pu,esz,rows⟩]))
 | .buildN pu esz z len parts=>
  (match len with
   | 0=>wv H K .emp
   | len+1=>EH E F pu esz (replicate (len+1) z) H parts fun rows H'=>K (some (.v (.own H'.length 0 (len+1) (len+1) none))) none (H'++[⟨false,pu,esz,rows⟩]))
 | .bD esz z len parts=>
  (match len with
   | 0=>wv H K .emp
   | len+1=>EH E F true esz (replicate (len+1) z) H parts fun rows H'=>K (some (.v (.data rows))) none H')
 | .mvD x=>
  (match evV E F x with
   | some p=>Hz H p fun q H'=>(match q with | .data rows=>K (some (.v (.data rows))) none H' | _=>False)
   | none=>False)
 | .call f args=>
  (match evV E F f,evs E F args with
   | some g,some vs=>callK g vs H fun r H'=>K (some (.v r)) none H'
   | _,_=>False)
 | o=>(match yaI E Hy F H o with | some ⟨x,bx,H'⟩=>K x bx H' | none=>False)
def jY:aG→Nat→FV→aG
 | [],_,_=>[]
 | (k,y)::r,s,x=>bif Nat.beq k s then (k,x)::r else (k,y)::jY r s x
def LC (F:aG) (g:Option (Nat×Bool)) (yes no:aG→Prop):Prop:=
 match g with
 | none=>yes F
 | some (s,want)=>(match fget F s with
  | some (.v (.bool b))=>(match want with
   | true=>aA b (yes (jY F s (.v (.bool true)))) (no (jY F s (.v (.bool false))))
   | false=>aA b (no (jY F s (.v (.bool true)))) (yes (jY F s (.v (.bool false)))))
  | some (.v (.tup []))=>no F
  | _=>False)
def yM (F:aG) (c:Opd) (b:Bool):aG:=
 match c with
 | .t s=>jY F s (.v (.bool b))
 | _=>F
def EJ (F:aG):Option Nat→aG
 | some d=>dF F d (.v (.tup []))
 | none=>F
def Cm (p:PV) (K:PV→Prop):Prop:=
 match p with
 | .bool b=>K (.bool b)
 | .int k n=>K (.int k n)
 | .agg cs=>K (.agg cs)
 | .data r=>K (.data r)
 | .own a b c d e=>K (.own a b c d e)
 | .ptr a b c d=>K (.ptr a b c d)
 | .sub a b c d e f=>K (.sub a b c d e f)
 | p=>K p
def uO:List PV→(List PV→Prop)→Prop
 | [],K=>K []
 | x::r,K=>Cm x fun x=>uO r fun r=>K (x::r)
def yN (p:PV) (K:PV→Prop):Prop:=
 match p with
 | .agg cs=>uO cs fun cs=>K (.agg cs)
 | .tup cs=>uO cs fun cs=>K (.tup cs)
 | p=>Cm p K
def Cn (x:FV) (K:FV→Prop):Prop:=
 match x with
 | .v p=>yN p fun p=>K (.v p)
 | .box p=>yN p fun p=>K (.box p)
 | .bp s o=>K (.bp s o)
def yO:aG→(aG→Prop)→Prop
 | [],K=>K []
 | (k,x)::r,K=>Cn x fun x=>yO r fun r=>K ((k,x)::r)
def Co (b:Bool) (K:Bool→Prop):Prop:=match b with | true=>K true | false=>K false
def yP:Hp→(Hp→Prop)→Prop
 | [],K=>K []
 | ⟨fz,pu,esz,rows⟩::r,K=>Co fz fun fz=>Co pu fun pu=>yP r fun r=>K (⟨fz,pu,esz,rows⟩::r)
theorem J9 (p:PV) (K:PV→Prop):Cm p K=K p:=by cases p<;>rfl
theorem K0:∀ (l:List PV) (K:List PV→Prop),uO l K=K l
 | [],_=>rfl
 | x::r,K=>by simp only [uO,J9,K0 r]
theorem yQ3 (p:PV) (K:PV→Prop):yN p K=K p:=by cases p<;>simp only [yN,K0,J9]
theorem yQ4 (x:FV) (K:FV→Prop):Cn x K=K x:=by cases x<;>simp only [Cn,yQ3]
theorem K1:∀ (F:aG) (K:aG→Prop),yO F K=K F
 | [],_=>rfl
 | (k,x)::r,K=>by simp only [yO,yQ4,K1 r]
theorem yQ5 (b:Bool) (K:Bool→Prop):Co b K=K b:=by cases b<;>rfl
theorem K4:∀ (H:Hp) (K:Hp→Prop),yP H K=K H
 | [],_=>rfl
 | ⟨fz,pu,esz,rows⟩::r,K=>by simp only [yP,yQ5,K4 r]
def EK (F:aG) (H:Hp) (K:aG→Hp→Prop):Prop:=yO F fun F=>yP H fun H=>K F H
theorem LD (F:aG) (H:Hp) (K:aG→Hp→Prop):EK F H K=K F H:=by simp only [EK,K1,K4]
def uP (E:Env) (callK:CK) (an:List An):List AO→Nat→aG→Hp→(aG→Hp→Prop)→Prop
 | [],_,F,H,K=>K F H
 | o::r,i,F,H,K=>
  LC F o.guard
   (fun F=>kZ E callK (Ch an i) F H o.op fun x bx H'=>match yeq (kK F bx) o.dst x with
    | none=>False
    | some F'=>EK F' H' fun F' H'=>uP E callK an r (i+1) F' H' K)
   (fun F=>uP E callK an r (i+1) (EJ F o.dst) H K)
def yPm (E:Env) (F:aG) (f:Opd) (az:List Opd):Option (List Nat):=
 match evV E F f,evs E F az with
 | some g,some vs=>(match yuA E g vs with
  | some x=>some (x.id::fY (x.all.set x.j (.int .i64 0)))
  | none=>(match g with
   | .fn (.func n) first captured=>bif E.qui n then some (fY (first++vs++captured)) else none
   | _=>none))
 | _,_=>none
def AT (E:Env) (F:aG) (H:Hp) (o:AOp):FP:=
 match o with
 | .call f az=>bif wW E F f az then aW E F H (.call f az) else (match yPm E F f az with | some l=>⟨f.slots++AE az,[],List.range H.length,l,true,false⟩ | none=>aW E F H (.call f az))
 | o=>aW E F H o
def yMK (E:Env) (F:aG) (H:Hp) (o:AO):FP:=
 let p:=AT E F H o.op;⟨En o.guard++p.rd,o.dst.toList++p.wr,p.hr,p.hw,p.push,p.all⟩
def fpNo (o:AO):FP:=⟨En o.guard,o.dst.toList,[],[],false,false⟩
def rK (E:Env) (callK:CK) (an:List An) (F0:aG) (l0:List AO) (pairs:List (Nat×Nat)):List AO→Nat→aG→Hp→List FP→(aG→Hp→Prop)→Prop
 | [],_,F,H,ps,K=>aB (ylW ps.reverse pairs&&Eo F0 l0 l0) (K F H)
 | o::r,i,F,H,ps,K=>
  LC F o.guard
   (fun F=>kZ E callK (Ch an i) F H o.op fun x bx H'=>match yiG (kK F bx) o.dst x with
    | none=>False
    | some F'=>EK F' H' fun F' H'=>rK E callK an F0 l0 pairs r (i+1) F' H' (yMK E F H o::ps) K)
   (fun F=>rK E callK an F0 l0 pairs r (i+1) (EJ F o.dst) H (fpNo o::ps) K)
abbrev LP:=Nat→aG→aG→Hp→(Ex→aG→Hp→Prop)→Prop
abbrev YK:=List PV→Hp→(Option Nat→Hp→Prop)→Prop
def yQ:YK:=fun _ _ _=>False
def WC (E:Env) (callK:CK) (lp:LP):aG→YK→TC→aG→Hp→(Ex→aG→Hp→Prop)→Prop
 | _,_,.skip,F,H,Q=>Q .norm F H
 | _,_,.ops l an [] fg,F,H,Q=>uP E callK an l 0 F H fun F' H'=>EK (fdels F' fg) H' fun F' H'=>Q .norm F' H'
 | _,_,.ops l an (p::ps) fg,F,H,Q=>rK E callK an (yE F l) l (p::ps) l 0 (yE F l) H [] fun F' H'=>EK (fdels F' fg) H' fun F' H'=>Q .norm F' H'
 | G,yk,.seq a b,F,H,Q=>WC E callK lp G yk a F H fun x F' H'=>match x with
  | .norm=>WC E callK lp G yk b F' H' Q
  | .exit i=>Q (.exit i) F' H'
  | .ret=>Q .ret F' H'
  | .brk k i=>Q (.brk k i) F' H'
 | G,yk,.cond c a b,F,H,Q=>(match evV E F c with
  | some (.bool t)=>aA t (WC E callK lp G yk a (yM F c true) H Q) (WC E callK lp G yk b (yM F c false) H Q)
  | _=>False)
 | G,yk,.block id b,F,H,Q=>WC E callK lp G yk b F H fun x F' H'=>match x with
  | .norm=>Q .norm F' H'
  | .exit i=>(bif Nat.beq i id then Q .norm F' H' else Q (.exit i) F' H')
  | .ret=>Q .ret F' H'
  | .brk k i=>Q (.brk k i) F' H'
 | G,_,.loop id _,F,H,Q=>lp id G F H Q
 | G,_,.lG id _,F,H,Q=>lp id G F H Q
 | G,_,.join id _,F,H,Q=>lp id G F H Q
 | _,_,.exit id,F,H,Q=>Q (.exit id) F H
 | _,_,.ret,F,H,Q=>Q .ret F H
 | _,_,.bad,_,_,_=>False
 | _,_,.cut _,_,_,_=>False
 | _,_,.rangeF _ _ _ _ _ _ _,_,_,_=>False
 | _,_,.yret _ _ _ _ _ _ _,_,_,_=>False
abbrev Qx:Type:=Ex→aG→Hp→Prop
abbrev K5 (R:aG→Hp→Prop) (Q:Qx):Qx:=fun x F' H'=>match x with | .norm=>R F' H' | .exit i=>Q (.exit i) F' H' | .ret=>Q .ret F' H' | .brk k i=>Q (.brk k i) F' H'
def LE (E:Env) (callK:CK) (lp:LP) (fn:TFn) (args:List PV) (H:Hp) (K:PV→Hp→Prop):Prop:=
 aB (decide (args.length=fn.nparams)) (WC E callK lp [] yQ fn.body (sZ 0 args) H fun x F' H'=>match x with
  | .exit _ | .brk _ _=>False
  | .norm | .ret=>(match yjT F' H' fn.results with | some ps=>K (rD ps) H' | none=>False))
structure SE where
 E:Env
 sumK:Nat→Option (List PV→(PV→Prop)→Prop)
 inl:Nat→Option TFn
 lp:LP
 sumL:Nat→Option (List PV→HB→(PV→List PV→Prop)→Prop)
def LF (H:Hp) (x:PV) (K:PV→Hp→Prop):Prop:=
 match x with
 | .tup ps=>Ci H ps fun qs H'=>K (.tup qs) H'
 | x=>xB H x K
def HD (wp:List PV→HB→(PV→List PV→Prop)→Prop) (x:LocC) (H:Hp) (K:PV→Hp→Prop):Prop:=
 Ci H (x.all.set x.j (.int .i64 0)) fun az H'=>match H'[x.id]? with
  | some b=>aB (!b.fz&&b.pu) (wp (az.set x.j x.y) b fun q rows=>K q (H'.set x.id { b with rows:=rows }))
  | none=>False
def uQ (S:SE):Nat→CK
 | 0,_,_,_,_=>False
 | d+1,f,args,H,K=>
  match f with
  | .fn (.func n) first captured=>
   (match yuA S.E f args with
   | some x=>(match S.sumL x.n with | some wp=>HD wp x H K | none=>False)
   | none=>
   match S.sumK n with
    | some wp=>(bif S.E.rb n then LB (kT H) (first++args++captured) fun az=>wp az fun r=>aB r.scalar (K r H)
     else Ci H (first++args++captured) fun az H'=>wp az fun r=>K r (bif r.scalar then H else H'))
    | none=>(match S.inl n with
     | some fn=>(bif S.E.rb n then False else LE S.E (uQ S d) S.lp fn (first++args++captured) H K)
     | none=>(match S.E.eff n (first++args++captured) H with
      | some (c,t,x,y)=>aB c (aA t (K x.1 x.2) (K y.1 y.2))
      | none=>False)))
  | _=>False
@[irreducible] def rL (S:SE) (d:Nat) (fn:TFn) (args:List PV) (b:HB) (K:PV→List PV→Prop):Prop:=
 LE S.E (uQ S d) S.lp fn args [b] fun r H=>LF H r fun q H'=>match H'[0]? with
  | some b2=>aB (!b2.fz&&decide (b2.rows.length=b.rows.length)) (K q b2.rows)
  | none=>False
@[irreducible] def WP (S:SE) (d:Nat) (fn:TFn) (args:List PV) (K:PV→Prop):Prop:=
 LE S.E (uQ S d) S.lp fn args [] fun r H=>Lz H r K
abbrev EP:=Nat→Env→Prop
def gV (E e:Env):Prop:=e={ E with yn:=e.yn,ctx:=e.ctx,yl:=e.yl }
def bC (E:Env):EP:=fun _ e=>gV E e
def Qt (E:Env):EP:=fun _ e=>e=E
def K6 (E:Env):EP:=fun _ e=>e=E.ats (E.yn+1)
def aK (P:EP) (E:Env):Prop:=∀ n e,P n e→gV E e
theorem aK.uni (E:Env):aK (bC E) E:=fun _ _ h=>h
def hnd (E:Env) (G:aG) (ps:List Nat) (az bd:AC) (n:Nat):Nat→List PV→Hp→Option (Option Nat×Hp):=fun y vs H=>(match yRA G ps vs with
 | some F1=>(match exec (E.ats y) n az F1 H with
  | some (.norm,F2,H2)=>(match exec (E.ats y) n bd F2 H2 with
   | some (.norm,_,H3)=>some (none,H3)
   | some (.exit i,_,H3)=>some (some i,H3)
   | _=>none)
  | _=>none)
 | none=>none)
def Rng (E:Env) (G:aG) (ps:List Nat) (az bd:AC):EP:=fun n e=>e=E.push ⟨G,ps,az,bd⟩ (hnd E G ps az bd n)
def Good (P:EP) (callK:CK):Prop:=
 ∀ f args H K,callK f args H K→∃ r H',K r H'∧∃ m0,∀ n e m,m0≤n→P n e→m0≤m→ym7 e (ycl e m) f args H=some (r,H')
section
variable {E:Env} {y:Nat} {cx:Nat→Option LCtx} {yl:Nat→Nat→List PV→Hp→Option (Option Nat×Hp)}
theorem LG (F:aG) (x:Opd):ev { E with yn:=y,ctx:=cx,yl:=yl } F x=ev E F x:=by cases x<;>rfl
theorem yR (F:aG) (x:Opd):evV { E with yn:=y,ctx:=cx,yl:=yl } F x=evV E F x:=by simp only [evV,LG]
theorem HE (F:aG):∀ l:List Opd,evs { E with yn:=y,ctx:=cx,yl:=yl } F l=evs E F l
 | []=>rfl
 | x::r=>by simp only [evs,yR,HE F r]
theorem K7 (F:aG) (x:Opd):yhE { E with yn:=y,ctx:=cx,yl:=yl } F x=yhE E F x:=by simp only [yhE,yR]
theorem yPn (F:aG) (x:Option Opd):pF { E with yn:=y,ctx:=cx,yl:=yl } F x=pF E F x:=by cases x<;>simp only [pF,K7]
theorem K8 (F:aG):∀ (l:List (Nat×Nat×Opd)) (cs:List PV),ym6 { E with yn:=y,ctx:=cx,yl:=yl } F cs l=ym6 E F cs l
 | [],_=>rfl
 | (_,_,x)::r,cs=>by simp only [ym6,yR,K8 F r]
theorem K9 (F:aG) (pu:Bool) (esz:Nat):∀ (l:List (Nat×Opd)) (rows:List PV) (H:Hp),yiF { E with yn:=y,ctx:=cx,yl:=yl } F pu esz rows H l=yiF E F pu esz rows H l
 | [],_,_=>rfl
 | (_,x)::r,rows,H=>by simp only [yiF,yR,K9 F pu esz r]
theorem L6 (F:aG) (x:Opd):mF { E with yn:=y,ctx:=cx,yl:=yl } F x=mF E F x:=by simp only [mF,LG]
theorem yLi (F:aG) (x:Opd):sW { E with yn:=y,ctx:=cx,yl:=yl } F x=sW E F x:=by simp only [sW,LG]
theorem L7 (F:aG):∀ l:List (Nat×Opd),oJ { E with yn:=y,ctx:=cx,yl:=yl } F l=oJ E F l
 | []=>rfl
 | (_,x)::r=>by simp only [oJ,L6,L7 F r]
theorem yDk (F:aG) (f:Opd) (az:List Opd):wW { E with yn:=y,ctx:=cx,yl:=yl } F f az=wW E F f az:=by simp only [wW,yR,HE]
theorem yNX (F:aG) (H:Hp) (o:AOp):aW { E with yn:=y,ctx:=cx,yl:=yl } F H o=aW E F H o:=by
 cases o<;>simp only [aW,L6,yLi,L7,yDk]
theorem yLj {F:aG} {H:Hp} {o:AOp} (h:rH o=false) (c1 c2:Nat→List PV→Hp→Option (PV×Hp)):yaI { E with yn:=y,ctx:=cx,yl:=yl } c1 F H o=yaI E c2 F H o:=by
 cases o<;>first | (simp [rH] at h;done) | simp only [yaI,LG,yR,HE,K7,yPn,K8,K9]
end
def L8 (E:Env) (F:aG) (H:Hp) (o:AOp) (K:OK):Prop:=
 ∃ out:Out,K out.x out.bx out.h∧∃ m0,∀ m,m0≤m→yaI E (ycl E m) F H o=some out
def yR6 (P:EP) (F:aG) (H:Hp) (o:AOp) (K:OK):Prop:=
 ∃ out:Out,K out.x out.bx out.h∧∃ m0,∀ n e m,m0≤n→P n e→m0≤m→yaI e (ycl e m) F H o=some out
section
variable {E:Env} {callK:CK} {F:aG} {H:Hp} {K:OK}
theorem yJv {o:AOp} (h:rH o=false) (c1 c2:Nat→List PV→Hp→Option (PV×Hp)):yaI E c1 F H o=yaI E c2 F H o:=by
 cases o<;>first | rfl | simp [rH] at h
theorem Qu {o:AOp} (hc:rH o=false) (h:match yaI E Hy F H o with | some ⟨x,bx,H'⟩=>K x bx H' | none=>False):L8 E F H o K:=by
 split at h
 ·rename_i x bx H' he;exact ⟨⟨x,bx,H'⟩,h,0,fun m _=>by rw [yJv hc (ycl E m) Hy,he]⟩
 ·exact h.elim
theorem Qv {H:Hp} {x:PV} {K:PV→Hp→Prop} (h:Hz H x K):∃ y H',K y H'∧yga H x=some (y,H'):=by
 unfold Hz at h;split at h
 ·exact ⟨_,_,h,rfl⟩
 ·exact ⟨_,_,h,rfl⟩
 ·exact ⟨_,_,h,rfl⟩
 ·exact ⟨_,_,h,rfl⟩
 ·exact ⟨_,_,h,rfl⟩
 ·split at h
  ·rename_i b hb;obtain ⟨h1,h⟩:=bT.1 h;obtain ⟨h2,h⟩:=bT.1 h;obtain ⟨h3,h⟩:=bT.1 h;exact ⟨_,_,h,by simp only [yga,hb];rw [Tu ⟨by simpa using h1,by simpa using h2,h3⟩]⟩
  ·exact h.elim
 ·exact h.elim
theorem L9:∀ (l:List PV) (H:Hp) (K:List PV→Hp→Prop),Ly H l K→∃ ys H',K ys H'∧yeY H l=some (ys,H')
 | [],H,K,h=>⟨_,_,h,rfl⟩
 | x::r,H,K,h=>by simp only [Ly] at h;obtain ⟨y,H1,h,e1⟩:=Qv h;obtain ⟨ys,H2,h,e2⟩:=L9 r H1 _ h;exact ⟨_,_,h,by simp only [yeY,e1,e2]⟩
theorem EL {H:Hp} {x:PV} {K:PV→Hp→Prop} (h:xB H x K):∃ y H',K y H'∧ycy H x=some (y,H'):=by
 cases x with
 | agg cs =>simp only [xB] at h;obtain ⟨ys,H',h,e⟩:=L9 cs H _ h;exact ⟨_,_,h,by simp only [ycy,e,Option.map]⟩
 | _ =>simp only [xB] at h;obtain ⟨y,H',h,e⟩:=Qv h;exact ⟨_,_,h,by simp only [ycy,e]⟩
theorem HF:∀ (l:List PV) (H:Hp) (K:List PV→Hp→Prop),Ci H l K→∃ ys H',K ys H'∧yby H l=some (ys,H')
 | [],H,K,h=>⟨_,_,h,rfl⟩
 | x::r,H,K,h=>by simp only [Ci] at h;obtain ⟨y,H1,h,e1⟩:=EL h;obtain ⟨ys,H2,h,e2⟩:=HF r H1 _ h;exact ⟨_,_,h,by simp only [yby,e1,e2]⟩
theorem yPo {H:Hp} {x:PV} {K:PV→Prop} (h:LA H x K):∃ y,K y∧purP H x=some y:=by
 have base:∀ {x:PV},xB H x (fun q _=>K q)→∃ y,K y∧(match ycy H x with | some (q,_)=>some q | none=>none)=some y:=fun h=>by
  obtain ⟨y,H',h,e⟩:=EL h;exact ⟨y,h,by simp only [e]⟩
 cases x with
 | ptr id ext i off=>
  simp only [LA] at h;split at h
  ·rename_i b hb;obtain ⟨h1,h⟩:=bT.1 h;split at h
   ·rename_i row hrow;obtain ⟨y,H',h,e⟩:=EL h;exact ⟨_,h,by simp only [purP,hb,hrow,e];rw [Tu (by simpa using h1)]⟩
   ·exact h.elim
  ·exact h.elim
 | eptr rows i off=>exact ⟨_,h,rfl⟩
 | _=>simp only [LA] at h;exact base h
theorem M2 {H:Hp}:∀ (l:List PV) (K:List PV→Prop),LB H l K→∃ ys,K ys∧yCB H l=some ys
 | [],K,h=>⟨_,h,rfl⟩
 | x::r,K,h=>by simp only [LB] at h;obtain ⟨y,h,e1⟩:=yPo h;obtain ⟨ys,h,e2⟩:=M2 r _ h;exact ⟨_,h,by simp only [yCB,e1,e2]⟩
theorem yPp {H:Hp} {x:PV} {K:PV→Prop} (h:Lz H x K):∃ q,K q∧purR H x=some q:=by
 cases x with
 | tup ps =>simp only [Lz] at h;obtain ⟨ys,H',h,e⟩:=HF ps H _ h;exact ⟨_,h,by simp only [purR,e]⟩
 | _ =>simp only [Lz] at h;obtain ⟨y,H',h,e⟩:=EL h;exact ⟨_,h,by simp only [purR,e]⟩
theorem Qw {pu:Bool} {H:Hp} {x:PV} {K:PV→Hp→Prop} (h:HA pu H x K):∃ y H',K y H'∧(if pu then ycy H x else some (x,H))=some (y,H'):=by
 cases pu with
 | true=>simp only [HA] at h;obtain ⟨y,H',h,e⟩:=EL h;exact ⟨y,H',h,by simpa using e⟩
 | false=>exact ⟨_,_,h,by simp⟩
theorem LH {pu:Bool} {esz:Nat}:∀ (l:List (Nat×Opd)) (rows:List PV) (H:Hp) (K:List PV→Hp→Prop),EH E F pu esz rows H l K →
  ∃ rows' H',K rows' H'∧yiF E F pu esz rows H l=some (rows',H')
 | [],rows,H,K,h=>⟨_,_,h,rfl⟩
 | (i,x)::r,rows,H,K,h=>by
  simp only [EH] at h;split at h
  ·rename_i p hp;obtain ⟨q,H',h,e⟩:=Qw h;obtain ⟨h1,h⟩:=bT.1 h;simp only [bZ] at h1;obtain ⟨rows',H2,h,e2⟩:=LH r _ H' K h;refine ⟨rows',H2,h,?_⟩;simp only [yiF,hp,e];rw [Tu ⟨fL h1.1.1,(show i+1≤rows.length from BM h1.1.2),h1.2⟩];exact e2
  ·exact h.elim
theorem yQ6 {op:BinOp} {k k':IntKind} {a b:Int} {K:PV→Prop} (h:Cj op k k' a b K):∃ r,K r∧binV op (.int k a) (.int k' b)=some r:=by
 cases op<;>simp only [Cj] at h
 case quo=>
  obtain ⟨h1,h2⟩:=bT.1 h;obtain ⟨h3,h4⟩:=bT.1 h2;have e1:k=k':=by simpa using h1
  have e2:¬b=0:=by simpa using h3
  exact ⟨_,h4,by simp [binV,e1,binI,e2]⟩
 case rem=>
  obtain ⟨h1,h2⟩:=bT.1 h;obtain ⟨h3,h4⟩:=bT.1 h2;have e1:k=k':=by simpa using h1
  have e2:¬b=0:=by simpa using h3
  exact ⟨_,h4,by simp [binV,e1,binI,e2]⟩
 case shl=>
  obtain ⟨h1,h2⟩:=bT.1 h;have e1:¬b<0:=by simpa using h1
  exact ⟨_,h2,by simp only [binV,Ej,e1,if_false]⟩
 case shr=>
  obtain ⟨h1,h2⟩:=bT.1 h;have e1:¬b<0:=by simpa using h1
  exact ⟨_,h2,by simp only [binV,Ej,e1,if_false]⟩
 all_goals
  obtain ⟨h1,h2⟩:=bT.1 h;have e1:k=k':=by simpa using h1
  split at h2
  ·rename_i r hr;exact ⟨r,h2,by simp only [binV,e1,if_true];rw [← e1];exact hr⟩
  ·exact h2.elim
theorem EM {n:Nat} {j:Int} {K:Nat→Prop}:∀ m,m≤n→AS n j K m→∃ k:Nat,K k∧j=(k:Int)∧k<n
 | 0,_,h=>h.elim
 | m+1,hm,h=>by
  simp only [AS] at h;obtain ⟨h1,h2⟩:=rI.1 h
  by_cases hj:j=((n-(m+1):Nat):Int)
  ·exact ⟨_,h1 (by simpa using hj),hj,by omega⟩
  ·exact EM m (by omega) (h2 (by simpa using hj))
theorem M4:∀ (cs:List PV) (i:Nat),HC cs=true→i<cs.length→cs[i]?=some (.int .u8 (aC (cs.getD i .nils)))
 | [],i,_,h=>by simp at h
 | x::r,i,hu,hi=>by
  cases x with
  | int k n=>
   cases k<;>simp only [HC,kG] at hu
   cases i with
   | zero=>simp [aC]
   | succ i=>have:=M4 r i hu (by simpa using hi);simpa using this
  | _=>simp [HC] at hu
theorem yPq {x:PV} {K:List PV→Prop} (h:Qr H x K):∃ ys,K ys∧yh0 H x=some ys:=by
 unfold Qr at h;split at h
 ·exact ⟨_,h,rfl⟩
 ·exact ⟨_,h,rfl⟩
 ·exact ⟨_,h,rfl⟩
 ·split at h
  ·rename_i b hb;obtain ⟨h1,h2⟩:=bT.1 h;obtain ⟨h3,h4⟩:=bT.1 h2;exact ⟨_,h4,by simp only [yh0,hb];rw [Tu ⟨by simpa using h1,by simpa using h3⟩]⟩
  ·exact h.elim
 ·exact h.elim
theorem LI {pu:Bool} {esz bytes:Nat} {rows:List PV} {K:PV→Hp→Prop} (h:EI H pu esz bytes rows K):∃ r H',K r H'∧ydm H pu esz bytes rows=some (r,H'):=by obtain ⟨h1,h2⟩:=bT.1 h;exact ⟨_,_,h2,by simp only [ydm];rw [Tu (by simpa using h1)]⟩
def pI (H:Hp) (pu:Bool) (esz bytes:Nat) (ys:List PV):PV→Option (PV×Hp)
 | .nils=>if ys.isEmpty then some (.nils,H) else ydm H pu esz bytes ys
 | .emp=>if ys.isEmpty then some (.emp,H) else ydm H pu esz bytes ys
 | .own id lo len ext cap=>
  (match H[id]? with
   | some b=>if b.rows.length=ext∧b.pu=pu∧b.esz=esz∧lo+len≤ext then
    (if ys.isEmpty then some (.own id lo len ext cap,H) else oH H pu esz bytes ys id lo len ext cap b) else none
   | none=>none)
 | _=>none
theorem yQ7 {md:Nat} {pu:Bool} {esz bytes:Nat} {s x:PV} {ys:List PV} {K:PV→Hp→Prop} (hy:yh0 H x=some ys) (hh:iY esz ys=true) (hs:sU H pu x=true) (h:Cl md H pu esz bytes s ys K) :
  ∃ r H',K r H'∧appV H pu esz bytes s x=some (r,H'):=by
 have e0:appV H pu esz bytes s x=pI H pu esz bytes ys s:=by simp only [appV,hy];rw [Tu ⟨hh,hs⟩];cases s<;>rfl
 rw [e0];clear e0 hy hs;unfold Cl at h;split at h
 ·obtain ⟨h1,h2⟩:=rI.1 h
  cases hE:ys.isEmpty with
  | true=>exact ⟨_,_,h1 hE,by simp [pI,hE]⟩
  | false =>obtain ⟨r,H',hk,hf⟩:=LI (h2 hE);exact ⟨r,H',hk,by simp [pI,hE,hf]⟩
 ·obtain ⟨h1,h2⟩:=rI.1 h
  cases hE:ys.isEmpty with
  | true=>exact ⟨_,_,h1 hE,by simp [pI,hE]⟩
  | false =>obtain ⟨r,H',hk,hf⟩:=LI (h2 hE);exact ⟨r,H',hk,by simp [pI,hE,hf]⟩
 ·rename_i id lo len ext cap;split at h
  ·rename_i b hb;obtain ⟨h1,h⟩:=bT.1 h;obtain ⟨h2,h⟩:=bT.1 h;obtain ⟨h3,h⟩:=bT.1 h;simp only [bZ,decide_eq_true_eq] at h1 h2 h3;obtain ⟨k1,k2⟩:=rI.1 h;have hc:b.rows.length=ext∧b.pu=pu∧b.esz=esz∧lo+len≤ext:=⟨h1,h2.1,h2.2,h3⟩
   cases hE:ys.isEmpty with
   | true=>exact ⟨_,_,k1 hE,by simp only [pI,hb];rw [Tu hc];simp [hE]⟩
   | false=>
    have h:=k2 hE
    suffices ∃ r H',K r H'∧oH H pu esz bytes ys id lo len ext cap b=some (r,H') by obtain ⟨r,H',hk,hf⟩:=this;exact ⟨r,H',hk,by simp only [pI,hb];rw [Tu hc];simp [hE,hf]⟩
    cases cap with
    | some c=>
     simp only at h;have key1:decide (len+ys.length≤c)=true→aB (!b.fz) (K (.own id lo (len+ys.length) ext (some c)) (H.set id { b with rows:=b.rows.take (lo+len)++(ys++b.rows.drop (lo+len+ys.length)) })) →
       ∃ r H',K r H'∧oH H pu esz bytes ys id lo len ext (some c) b=some (r,H'):=by
      intro e1 e2;obtain ⟨e3,e4⟩:=bT.1 e2;refine ⟨_,_,e4,?_⟩;simp only [oH];rw [Tu (by simpa using e1),Tu (by simpa using e3)]
     have key2:decide (len+ys.length≤c)=false→EI H pu esz bytes ((b.rows.drop lo).take len++ys) K →
       ∃ r H',K r H'∧oH H pu esz bytes ys id lo len ext (some c) b=some (r,H'):=by
      intro e1 e2;obtain ⟨r,H',hk,hf⟩:=LI e2;refine ⟨r,H',hk,?_⟩;simp only [oH];rw [Zv (by simpa using e1)];exact hf
     split at h
     ·obtain ⟨a1,a2⟩:=rI.1 h
      cases hd:decide (len+ys.length≤c) with
      | true=>exact key1 hd (a1 hd)
      | false=>exact key2 hd (a2 hd)
     ·obtain ⟨a1,a2⟩:=rI.1 h
      cases hd:decide (len+ys.length≤c) with
      | true=>exact key1 hd (a1 hd)
      | false=>exact key2 hd (a2 hd)
     ·obtain ⟨a1,a2⟩:=bT.1 h;exact key2 (by simpa using a1) a2
     ·obtain ⟨a1,a2⟩:=bT.1 h;exact key1 a1 a2
    | none=>
     simp only at h;obtain ⟨hfz,h⟩:=bT.1 h;have hfz':¬b.fz=true:=by simpa using hfz
     have key1:decide (lo+len+ys.length≤ext)=true→K (.own id lo (len+ys.length) ext none) (H.set id { b with rows:=b.rows.take (lo+len)++(ys++b.rows.drop (lo+len+ys.length)) }) →
       ∃ r H',K r H'∧oH H pu esz bytes ys id lo len ext none b=some (r,H'):=by
      intro e1 e2;refine ⟨_,_,e2,?_⟩;simp only [oH];rw [Zv hfz',Tu (by simpa using e1)]
     have key3:decide (lo+len+ys.length≤ext)=false→aB (decide (lo=0)) (aB (decide (len=ext)) (aB (decide ((ext+ys.length+64)*(bytes+1)≤room))
        (K (.own id 0 (b.rows++ys).length (b.rows++ys).length none) (H.set id { b with rows:=b.rows++ys })))) →
       ∃ r H',K r H'∧oH H pu esz bytes ys id lo len ext none b=some (r,H'):=by
      intro e1 e2;obtain ⟨e3,e2⟩:=bT.1 e2;obtain ⟨e4,e2⟩:=bT.1 e2;obtain ⟨e5,e2⟩:=bT.1 e2;simp only [decide_eq_true_eq] at e3 e4 e5;refine ⟨_,_,e2,?_⟩;simp only [oH];rw [Zv hfz',Zv (by simpa using e1),Tu ⟨e3,by omega,by rw [e4];exact e5⟩];have e6:b.rows.take len=b.rows:=xY (by omega);have e7:(b.rows++ys).length=len+ys.length:=by rw [cR,h1,e4]
      rw [e6,e7]
     have key4:decide (lo+len+ys.length≤ext)=false→aB (decide (lo=0)) (aB (decide (len≤ext)) (aB (decide ((len+ys.length+64)*(bytes+1)≤room))
        (K (.own id 0 (len+ys.length) (len+ys.length) none) (H.set id { b with rows:=b.rows.take len++ys })))) →
       ∃ r H',K r H'∧oH H pu esz bytes ys id lo len ext none b=some (r,H'):=by
      intro e1 e2;obtain ⟨e3,e2⟩:=bT.1 e2;obtain ⟨e4,e2⟩:=bT.1 e2;obtain ⟨e5,e2⟩:=bT.1 e2;simp only [decide_eq_true_eq] at e3 e4 e5;refine ⟨_,_,e2,?_⟩;simp only [oH];rw [Zv hfz',Zv (by simpa using e1),Tu ⟨e3,e4,e5⟩]
     split at h
     ·obtain ⟨a1,a2⟩:=rI.1 h
      cases hd:decide (lo+len+ys.length≤ext) with
      | true=>exact key1 hd (a1 hd)
      | false=>exact key3 hd (a2 hd)
     ·obtain ⟨a1,a2⟩:=rI.1 h
      cases hd:decide (lo+len+ys.length≤ext) with
      | true=>exact key1 hd (a1 hd)
      | false=>exact key4 hd (a2 hd)
     ·obtain ⟨a1,a2⟩:=bT.1 h;exact key1 a1 a2
     ·obtain ⟨a1,a2⟩:=bT.1 h;exact key3 (by simpa using a1) a2
  ·exact h.elim
 ·exact h.elim
theorem yNY {esz:Nat} {lo hi mx:Option Int} {x:PV} {K:PV→Prop} (h:Qs H esz lo hi mx x K):∃ r,K r∧yjR H esz lo hi mx x=some r:=by
 unfold Qs at h;split at h
 ·obtain ⟨h1,h2⟩:=bT.1 h;simp only [bZ,decide_eq_true_eq] at h1;exact ⟨_,h2,by simp only [yjR];rw [Tu h1]⟩
 ·obtain ⟨h1,h2⟩:=bT.1 h;simp only [bZ,decide_eq_true_eq] at h1;exact ⟨_,h2,by simp only [yjR];rw [Tu h1]⟩
 ·rename_i rows;simp only at h;split at h
  ·obtain ⟨h1,h⟩:=bT.1 h;obtain ⟨h2,h⟩:=bT.1 h;obtain ⟨h3,h⟩:=bT.1 h;obtain ⟨h4,h⟩:=bT.1 h;simp only [sS,decide_eq_true_eq] at h1 h2 h3 h4;exact ⟨_,h,by simp only [yjR];rw [Tu ⟨h1,h2,h3,h4⟩]⟩
  ·rename_i m;obtain ⟨h1,h⟩:=bT.1 h;obtain ⟨h2,h⟩:=bT.1 h;obtain ⟨h3,h⟩:=bT.1 h;obtain ⟨h4,h⟩:=bT.1 h;obtain ⟨h5,h⟩:=bT.1 h;obtain ⟨k1,k2⟩:=rI.1 h;simp only [sS,decide_eq_true_eq] at h1 h2 h3 h4 h5
   by_cases hl:lo.getD 0=m
   ·exact ⟨_,k1 (by simpa using hl),by simp only [yjR];rw [Tu ⟨h1,h2,h3,h4,h5⟩,Tu hl]⟩
   ·exact ⟨_,k2 (by simpa using hl),by simp only [yjR];rw [Tu ⟨h1,h2,h3,h4,h5⟩,Zv hl]⟩
 ·rename_i id lo0 len ext cap;simp only at h;split at h
  ·rename_i b hb;obtain ⟨h0,h⟩:=bT.1 h;split at h
   ·obtain ⟨h1,h⟩:=bT.1 h;obtain ⟨h2,h⟩:=bT.1 h;obtain ⟨h3,h⟩:=bT.1 h;simp only [sS,decide_eq_true_eq] at h1 h2 h3;exact ⟨_,h,by simp only [yjR,hb,h0,Bool.true_eq_false,if_false];rw [Tu ⟨h1,h2,h3⟩]⟩
   ·obtain ⟨h1,h⟩:=bT.1 h;obtain ⟨h2,h⟩:=bT.1 h;obtain ⟨h3,h⟩:=bT.1 h;obtain ⟨h4,h⟩:=bT.1 h;simp only [sS,decide_eq_true_eq] at h1 h2 h3 h4;exact ⟨_,h,by simp only [yjR,hb,h0,Bool.true_eq_false,if_false];rw [Tu ⟨h1,h2,h3,h4⟩]⟩
  ·exact h.elim
 ·exact h.elim
theorem M5 {sh:Sh} {rows:List PV} {i:Nat} {K:PV→Prop} (h:yL sh rows i K):∃ r,K r∧rows[i]?=some r:=by
 have key:aB (decide (i<rows.length)) (aB (aE sh (rows.getD i .nils)) (K (rJ sh (rows.getD i .nils))))→∃ r,K r∧rows[i]?=some r:=by
  intro h;obtain ⟨h1,h⟩:=bT.1 h;obtain ⟨h2,h⟩:=bT.1 h;have hi:i<rows.length:=by simpa using h1
  rw [J5 _ _ h2] at h;refine ⟨_,h,?_⟩;rw [dL hi,dK,dL hi];rfl
 unfold yL at h;split at h
 ·split at h
  ·rename_i r hr;exact ⟨r,h,hr⟩
  ·exact h.elim
 ·exact key h
theorem yQ8 {a:An} {o:AOp} (hc:rH o=false) (h:kZ E callK a F H o K):L8 E F H o K:=by
 cases o
 case pick c x y=>
  simp only [kZ] at h;split at h
  ·rename_i t ht;obtain ⟨h1,h2⟩:=rI.1 h
   cases t with
   | true=>
    have h:=h1 rfl;split at h
    ·rename_i p hp;exact ⟨⟨some (.v p),none,H⟩,h,0,fun m _=>by simp only [yaI,ht,hp];rfl⟩
    ·exact h.elim
   | false=>
    have h:=h2 rfl;split at h
    ·rename_i p hp;exact ⟨⟨some (.v p),none,H⟩,h,0,fun m _=>by simp only [yaI,ht,hp];rfl⟩
    ·exact h.elim
  ·exact h.elim
 case bin op x y=>
  simp only [kZ] at h;split at h
  ·rename_i k p k' q hx hy;obtain ⟨r,hk,hr⟩:=yQ6 h;exact ⟨⟨some (.v r),none,H⟩,hk,0,fun m _=>by simp only [yaI,hx,hy,hr];rfl⟩
  ·exact h.elim
 case eqN neg x=>
  simp only [kZ] at h;split at h
  ·rename_i hx;exact ⟨⟨some (.v (.bool (bif neg then false else true))),none,H⟩,h,0,fun m _=>by simp only [yaI,hx];cases neg<;>rfl⟩
  ·rename_i b hx;exact ⟨⟨some (.v (.bool (bif neg then !b else b))),none,H⟩,h,0,fun m _=>by simp only [yaI,hx];cases neg<;>rfl⟩
  ·rename_i rows hx;obtain ⟨h1,h⟩:=bT.1 h
   cases rows with
   | nil=>simp at h1
   | cons q l=>exact ⟨⟨some (.v (.bool neg)),none,H⟩,h,0,fun m _=>by simp only [yaI,hx];cases neg<;>rfl⟩
  ·rename_i hx;exact ⟨⟨some (.v (.bool neg)),none,H⟩,h,0,fun m _=>by simp only [yaI,hx];cases neg<;>rfl⟩
  ·exact h.elim
 case load agg sz x=>
  simp only [kZ] at h;split at h
  ·rename_i id ext i off hx;split at h
   ·rename_i b hb;obtain ⟨h1,h⟩:=bT.1 h;obtain ⟨row,h,hr⟩:=M5 h;split at h
    ·rename_i p hp;exact ⟨⟨some (.v p),none,H⟩,h,0,fun m _=>by simp only [yaI,hx,hb];rw [Tu (by simpa using h1)];simp only [hr,hp];rfl⟩
    ·exact h.elim
   ·exact h.elim
  ·exact Qu rfl h
 case store sz x y=>
  simp only [kZ] at h;split at h
  ·rename_i id ext i off hx;split at h
   ·rename_i p hp;split at h
    ·rename_i b0 hb0;obtain ⟨q,H',h,hq⟩:=Qw h;split at h
     ·rename_i b hb;obtain ⟨h1,h⟩:=bT.1 h;obtain ⟨h2,h⟩:=bT.1 h;obtain ⟨row,h,hr⟩:=M5 h;split at h
      ·rename_i row' hrow;refine ⟨⟨none,none,H'.set id { b with rows:=b.rows.set i row' }⟩,h,0,fun m _=>?_⟩;have e1:b.rows.length=ext:=by simpa using h1
       have e2:b.fz=false:=by simpa using h2
       simp only [yaI,hp,hx,hb0,hq,hb,hr,hrow];rw [Tu ⟨e1,e2⟩]
      ·exact h.elim
     ·exact h.elim
    ·exact h.elim
   ·exact h.elim
  ·exact Qu rfl h
 case iad esz x i=>
  simp only [kZ] at h;split at h
  ·rename_i rows n hx hi;obtain ⟨h1,h⟩:=bT.1 h;obtain ⟨h2,h⟩:=bT.1 h;obtain ⟨h3,h⟩:=bT.1 h;obtain ⟨h4,h⟩:=bT.1 h;simp only [decide_eq_true_eq] at h1 h2;rw [J5 _ _ h3] at h h4;have hlt:n.toNat<rows.length:=by omega
   have e:rows[n.toNat]?=some (rows.getD n.toNat .nils):=by rw [dL hlt,dK,dL hlt];rfl
   refine ⟨⟨_,_,_⟩,h,0,fun m _=>?_⟩;simp only [yaI,hx,hi];rw [Tu ⟨h1,h2⟩];simp only [e];rw [Tu (by simpa using h4)];rfl
  ·rename_i id lo len ext cap n hx hi;split at h
   ·rename_i b hb;obtain ⟨h1,h⟩:=bT.1 h;obtain ⟨h2,h⟩:=bT.1 h;obtain ⟨h3,h⟩:=bT.1 h;simp only [decide_eq_true_eq] at h1 h2 h3;refine ⟨⟨_,_,_⟩,h,0,fun m _=>?_⟩;simp only [yaI,hx,hi];rw [Tu ⟨h1,h2⟩];simp only [hb];rw [Tu h3];rfl
   ·exact h.elim
  ·rename_i id ext r off mm e j hx hi;obtain ⟨h1,h⟩:=bT.1 h;have h1:e=esz:=fL h1;subst h1;obtain ⟨k,h',rfl,hk⟩:=EM mm (cJ _) h;clear h;refine ⟨⟨_,_,_⟩,h',0,fun m _=>?_⟩;simp only [yaI,hx,hi];rw [Tu ⟨by omega,by omega,by trivial⟩];simp [outV]
  ·exact h.elim
 case iadA n esz x i=>
  simp only [kZ] at h;split at h
  ·rename_i s o j hx hi;obtain ⟨k,h',rfl,hk⟩:=EM n (cJ _) h;clear h;refine ⟨⟨_,_,_⟩,h',0,fun m _=>?_⟩;simp only [yaI,hx,hi];rw [Tu ⟨by omega,by omega⟩];simp
  ·rename_i id e r o j hx hi;obtain ⟨k,h',rfl,hk⟩:=EM n (cJ _) h;clear h;refine ⟨⟨_,_,_⟩,h',0,fun m _=>?_⟩;simp only [yaI,hx,hi];rw [Tu ⟨by omega,by omega⟩];simp [outV]
  ·rename_i rows r o j hx hi;obtain ⟨k,h',rfl,hk⟩:=EM n (cJ _) h;clear h;refine ⟨⟨_,_,_⟩,h',0,fun m _=>?_⟩;simp only [yaI,hx,hi];rw [Tu ⟨by omega,by omega⟩];simp [outV]
  ·exact h.elim
 case idx agg n esz x i=>
  simp only [kZ] at h;split at h
  ·rename_i cs j hx hi;split at h
   ·obtain ⟨h0,k0⟩:=bT.1 h;obtain ⟨h1,k1⟩:=bT.1 k0;obtain ⟨h2,k2⟩:=bT.1 k1;clear h k0 k1;simp only [bZ,decide_eq_true_eq,lX] at h0 h1 h2;obtain ⟨ha,he,hn,hu⟩:=h0;have he:=fL he;have hn:=fL hn;subst ha;subst he;refine ⟨⟨_,_,_⟩,k2,0,fun m _=>?_⟩;simp only [yaI,hx,hi];rw [Tu ⟨h1,h2⟩];have hlt:j.toNat<cs.length:=by omega
    have hcell:cs[j.toNat]?=some (.int .u8 (aC (cs.getD j.toNat .nils))):=M4 cs _ hu hlt;simp only [yhp,Nat.mul_one,PV.cells,kG,if_false,hcell];rfl
   obtain ⟨k,h',rfl,hk⟩:=EM n (cJ _) h;clear h;split at h'
   ·rename_i p hp;refine ⟨⟨_,_,_⟩,h',0,fun m _=>?_⟩;simp only [yaI,hx,hi];rw [Tu ⟨by omega,by omega⟩];simp only [cP,hp];rfl
   ·exact h'.elim
  ·exact h.elim
 case slc esz x lo hi mx=>
  simp only [kZ] at h;split at h
  ·rename_i p l hh m hx hl hhi hm;split at h
   ·exact h.elim
   ·rename_i hb;obtain ⟨r,h,hr⟩:=yNY h;refine ⟨⟨_,_,_⟩,h,0,fun _ _=>?_⟩;simp only [yaI,hx,hl,hhi,hm];rw [Zv (by rw [hb];exact Bool.false_ne_true)];simp only [hr];rfl
  ·exact h.elim
 case mkSl pu esz bytes z l c=>
  simp only [kZ] at h;split at h
  ·rename_i l c hl hc;obtain ⟨h1,h⟩:=bT.1 h;obtain ⟨h2,h⟩:=bT.1 h;obtain ⟨h3,h⟩:=bT.1 h;simp only [decide_eq_true_eq] at h1 h2 h3;refine ⟨⟨_,_,_⟩,h,0,fun _ _=>?_⟩;simp only [yaI,hl,hc];rw [Tu ⟨h1,h2,h3⟩];rfl
  ·exact h.elim
 case app pu esz bytes s x=>
  simp only [kZ] at h;split at h
  ·rename_i s x hs hx;obtain ⟨ys,h,hy⟩:=yPq h;obtain ⟨h1,h⟩:=bT.1 h;obtain ⟨h2,h⟩:=bT.1 h;obtain ⟨r,H',h,hr⟩:=yQ7 hy h1 h2 h;refine ⟨⟨_,_,_⟩,h,0,fun _ _=>?_⟩;simp only [yaI,hs,hx,hr];rfl
  ·exact h.elim
 case appZ pu esz bytes z s n=>
  simp only [kZ] at h;split at h
  ·rename_i k hs hk;obtain ⟨h1,h⟩:=bT.1 h;have h1:0≤k:=by simpa using h1
   obtain ⟨ha,hb⟩:=rI.1 h
   cases h0:decide (k.toNat=0) with
   | true=>
    refine ⟨⟨_,_,_⟩,ha h0,0,fun _ _=>?_⟩;have h0:k.toNat=0:=by simpa using h0
    simp only [yaI,hs,hk,appZ];rw [Tu h1,Tu h0];rfl
   | false=>
    obtain ⟨r,H',h2,hr⟩:=LI (hb h0);refine ⟨⟨_,_,_⟩,h2,0,fun _ _=>?_⟩;have h0:¬k.toNat=0:=by simpa using h0
    simp only [yaI,hs,hk,appZ];rw [Tu h1,Zv h0,hr];rfl
  ·exact h.elim
 case clr pu esz z x=>
  simp only [kZ] at h;split at h
  ·rename_i hx;exact ⟨⟨_,_,_⟩,h,0,fun _ _=>by simp only [yaI,hx,clrV];rfl⟩
  ·rename_i hx;exact ⟨⟨_,_,_⟩,h,0,fun _ _=>by simp only [yaI,hx,clrV];rfl⟩
  ·rename_i hx;exact ⟨⟨_,_,_⟩,h,0,fun _ _=>by simp only [yaI,hx,clrV];rfl⟩
  ·rename_i id lo len ext cap hx;split at h
   ·rename_i b hb;obtain ⟨ha,hb2⟩:=rI.1 h
    cases len with
    | zero=>exact ⟨⟨_,_,_⟩,ha rfl,0,fun _ _=>by simp only [yaI,hx,clrV];rfl⟩
    | succ len =>have h:=hb2 (by simp);obtain ⟨h1,h⟩:=bT.1 h;obtain ⟨h2,h⟩:=bT.1 h;obtain ⟨h3,h⟩:=bT.1 h;obtain ⟨h4,h⟩:=bT.1 h;obtain ⟨h5,h⟩:=bT.1 h;simp only [decide_eq_true_eq,lX,beq_iff_eq] at h1 h2 h3 h4;have h5:=fL h5;refine ⟨⟨_,_,_⟩,h,0,fun _ _=>?_⟩;simp only [yaI,hx,clrV,hb];rw [Tu ⟨h1,h2,h3,h4,h5⟩];rfl
   ·exact h.elim
  ·exact h.elim
 case boxH pu esz x=>
  simp only [kZ] at h;split at h
  ·rename_i p hp;obtain ⟨q,H',h,hq⟩:=Qw h;obtain ⟨h1,h⟩:=bT.1 h;simp only [bZ] at h1;refine ⟨⟨_,_,_⟩,h,0,fun _ _=>?_⟩;simp only [yaI,hp,hq];rw [Tu ⟨fL h1.1,h1.2⟩]
  ·exact h.elim
 case bSl pu esz z len parts=>
  simp only [kZ] at h;split at h
  ·exact ⟨⟨_,_,_⟩,h,0,fun _ _=>by simp only [yaI,if_true];rfl⟩
  ·obtain ⟨rows,H',h,e⟩:=LH _ _ _ _ h;refine ⟨⟨_,_,_⟩,h,0,fun _ _=>?_⟩;simp only [yaI,e];rfl
 case buildN pu esz z len parts=>
  simp only [kZ] at h;split at h
  ·exact ⟨⟨_,_,_⟩,h,0,fun _ _=>by simp only [yaI,if_true];rfl⟩
  ·obtain ⟨rows,H',h,e⟩:=LH _ _ _ _ h;refine ⟨⟨_,_,_⟩,h,0,fun _ _=>?_⟩;simp only [yaI,e];rfl
 case bD esz z len parts=>
  simp only [kZ] at h;split at h
  ·exact ⟨⟨_,_,_⟩,h,0,fun _ _=>by simp only [yaI,if_true];rfl⟩
  ·obtain ⟨rows,H',h,e⟩:=LH _ _ _ _ h;refine ⟨⟨_,_,_⟩,h,0,fun _ _=>?_⟩;simp only [yaI,e];rfl
 case mvD x=>
  simp only [kZ] at h;split at h
  ·rename_i p hp;obtain ⟨y,H',h,e⟩:=Qv h;split at h
   ·exact ⟨⟨_,_,_⟩,h,0,fun _ _=>by simp only [yaI,hp,e];rfl⟩
   ·exact h.elim
  ·exact h.elim
 case call f args=>simp [rH] at hc
 all_goals exact Qu rfl h
theorem M6 {P:EP} (hP:aK P E) (hG:Good P callK) {a:An} {o:AOp} (h:kZ E callK a F H o K):yR6 P F H o K:=by
 cases hc:rH o with
 | false =>obtain ⟨out,hk,m0,hm⟩:=yQ8 hc h;refine ⟨out,hk,0,fun n e m _ hp _=>?_⟩;have hl:=hP n e hp;unfold gV at hl;rw [hl,yLj hc _ (ycl E m0)];exact hm m0 (cJ _)
 | true=>
  cases o with
  | call f args=>
   simp only [kZ] at h;split at h
   ·rename_i g vs hg hvs;obtain ⟨r,H',h,m0,hm⟩:=hG _ _ _ _ h;refine ⟨⟨_,_,_⟩,h,m0,fun n e m hn hp hle=>?_⟩;have hl:=hP n e hp;have e1:evV e F f=some g:=by unfold gV at hl;rw [hl,yR];exact hg
    have e2:evs e F args=some vs:=by unfold gV at hl;rw [hl,HE];exact hvs
    simp only [yaI,e1,e2,hm n e m hn hp hle];rfl
   ·exact h.elim
  | _=>simp [rH] at hc
theorem EN:∀ (F:aG) (s:Nat) (x:FV),fget F s=some x→jY F s x=F
 | [],_,_,h=>by simp [fget] at h
 | (k,y)::r,s,x,h=>by
  simp only [fget] at h;simp only [jY]
  by_cases hk:k=s
  ·subst hk;simp only [if_true,cC] at h;subst h;simp
  ·rw [Zv hk] at h;have:Nat.beq k s=false:=by
    cases e:Nat.beq k s with
    | true=>exact absurd (fL e) hk
    | false=>rfl
   rw [this,EN r s x h];rfl
theorem M7 {c:Opd} {b:Bool} (h:evV E F c=some (.bool b)):yM F c b=F:=by
 cases c with
 | t s=>
  simp only [evV,ev] at h;simp only [yM];apply EN
  cases e:fget F s with
  | none=>simp [e] at h
  | some fv=>cases fv<;>simp [e] at h;rw [h]
 | _=>rfl
theorem yF8 {g:Option (Nat×Bool)} {yes no:aG→Prop} (h:LC F g yes no):(yen F g=some true∧yes F)∨(yen F g=some false∧no F):=by
 unfold LC at h;split at h
 ·exact .inl ⟨rfl,h⟩
 ·rename_i s want;split at h
  ·rename_i b hb;have e:yen F (some (s,want))=some (b==want):=by simp only [yen,hb]
   split at h
   ·cases b with
    | true=>have h:yes (jY F s (.v (.bool true))):=h;rw [EN _ _ _ hb] at h;exact .inl ⟨by rw [e];rfl,h⟩
    | false=>have h:no (jY F s (.v (.bool false))):=h;rw [EN _ _ _ hb] at h;exact .inr ⟨by rw [e];rfl,h⟩
   ·cases b with
    | true=>have h:no (jY F s (.v (.bool true))):=h;rw [EN _ _ _ hb] at h;exact .inr ⟨by rw [e];rfl,h⟩
    | false=>have h:yes (jY F s (.v (.bool false))):=h;rw [EN _ _ _ hb] at h;exact .inl ⟨by rw [e];rfl,h⟩
  ·rename_i hb;exact .inr ⟨by simp only [yen,hb],h⟩
  ·exact h.elim
theorem Qz {P:EP} (hP:aK P E) (hG:Good P callK) {an:List An}:∀ (l:List AO) (i:Nat) (F:aG) (H:Hp) (K:aG→Hp→Prop),uP E callK an l i F H K →
  ∃ F' H',K F' H'∧∃ m0,∀ n e m,m0≤n→P n e→m0≤m→mY e (ycl e m) l F H=some (F',H')
 | [],i,F,H,K,h=>⟨F,H,h,0,fun _ _ _ _ _ _=>rfl⟩
 | o::r,i,F,H,K,h=>by
  simp only [uP] at h;rcases yF8 h with ⟨hg,h⟩ | ⟨hg,h⟩
  ·obtain ⟨out,h,m0,hm⟩:=M6 hP hG h;split at h
   ·exact h.elim
   ·rename_i F' hF';rw [LD] at h;obtain ⟨F2,H2,hk,m1,hm1⟩:=Qz hP hG r (i+1) F' out.h K h;refine ⟨F2,H2,hk,max m0 m1,fun n e m hn hp hle=>?_⟩;have e0:yjS e (ycl e m) F H o=some (F',out.h):=by
     simp only [yjS,hg,hm n e m (by omega) hp (by omega),hF',Option.map]
    simp only [mY,e0];exact hm1 n e m (by omega) hp (by omega)
  ·obtain ⟨F2,H2,hk,m1,hm1⟩:=Qz hP hG r (i+1) (EJ F o.dst) H K h;refine ⟨F2,H2,hk,m1,fun n e m hn hp hle=>?_⟩;have e0:yjS e (ycl e m) F H o=some (EJ F o.dst,H):=by
    simp only [yjS,hg]
    cases o.dst<;>rfl
   simp only [mY,e0];exact hm1 n e m hn hp hle
structure Cov (p q:FP):Prop where
 rd:q.rd=p.rd
 wr:q.wr=p.wr
 h:p.all=true∨((∀ x,x∈q.hr→x∈p.hr)∧(∀ x,x∈q.hw→x∈p.hw)∧(q.push=true→p.push=true)∧q.all=false)
theorem Cov.tight (p:FP) (H H1:Hp):Cov p (p.tight H H1):=by
 unfold FP.tight
 cases h:p.all with
 | true=>exact ⟨rfl,rfl,.inl h⟩
 | false=>exact ⟨rfl,rfl,.inr ⟨fun _ h=>h,fun _ h=>h,fun h=>h,h⟩⟩
def yHc:List FP→List FP→Prop
 | [],[]=>True
 | p::r,q::s=>Cov p q∧yHc r s
 | _,_=>False
theorem yHc.get:∀ (l l':List FP),yHc l l'→∀ (i:Nat) (p:FP),l[i]?=some p→∃ q:FP,l'[i]?=some q∧Cov p q
 | [],_,_,i,p,e=>by simp at e
 | p::r,[],h,_,_,_=>h.elim
 | p::r,q::s,h,i,x,e=>by
  obtain ⟨h1,h2⟩:=h
  cases i with
  | zero=>simp at e;subst e;exact ⟨q,rfl,h1⟩
  | succ i=>simp at e;simpa using yHc.get r s h2 i x e
theorem QA:∀ l:List Nat,kU l []=false
 | []=>rfl
 | x::r=>by simp only [kU,QA r];rfl
theorem QB:∀ (l m:List Nat),kU l m=true↔∃ x,x∈l∧x∈m
 | [],m=>by simp [kU]
 | y::r,m=>by
  simp only [kU,sS,QB r m,List.elem_eq_mem,decide_eq_true_eq,qAo];constructor
  ·rintro (h | ⟨x,h1,h2⟩)
   ·exact ⟨y,.inl rfl,h⟩
   ·exact ⟨x,.inr h1,h2⟩
  ·rintro ⟨x,rfl | h1,h2⟩
   ·exact .inl h2
   ·exact .inr ⟨x,h1,h2⟩
theorem QC {a b a' b':List Nat} (h:kU a b=false) (ha:∀ x,x∈a'→x∈a) (hb:∀ x,x∈b'→x∈b):kU a' b'=false:=by
 cases e:kU a' b' with
 | false=>rfl
 | true=>
  obtain ⟨x,h1,h2⟩:=(QB _ _).1 e;have:kU a b=true:=(QB _ _).2 ⟨x,ha x h1,hb x h2⟩;rw [h] at this
  cases this
theorem M8 {a:List Nat} (h:∀ x,x∈a→x∈([]:List Nat)):a=[]:=by
 cases a with
 | nil=>rfl
 | cons x r=>exact absurd (h x dS) (by simp)
theorem yNZ {p q p' q':FP} (h:wX p q=false) (hp:Cov p p') (hq:Cov q q'):wX p' q'=false:=by
 have hpx:∀ {x x':FP},x.heapy=false→Cov x x'→x'.push=false∧x'.all=false∧x'.hr=[]∧x'.hw=[]:=by
  intro x x' hx hc;simp only [FP.heapy,Aw,Bool.not_eq_false',List.isEmpty_iff] at hx;obtain ⟨⟨⟨h1,h2⟩,h3⟩,h4⟩:=hx;rcases hc.h with h | ⟨k1,k2,k3,k4⟩
  ·rw [h2] at h;cases h
  ·rw [h3] at k1;rw [h4] at k2;refine ⟨?_,k4,M8 k1,M8 k2⟩
   cases e:x'.push with
   | false=>rfl
   | true=>rw [k3 e] at h1;cases h1
 simp only [wX,Aw] at h;obtain ⟨⟨⟨⟨⟨⟨⟨⟨A,B⟩,C⟩,D⟩,E⟩,G⟩,I⟩,J⟩,K⟩:=h;have A':kU p'.wr q'.rd=false:=by rw [hp.wr,hq.rd];exact A
 have B':kU p'.wr q'.wr=false:=by rw [hp.wr,hq.wr];exact B
 have C':kU q'.wr p'.rd=false:=by rw [hp.rd,hq.wr];exact C
 cases ea:p.all with
 | true =>rw [ea,jU] at D;obtain ⟨h1,h2,h3,h4⟩:=hpx D hq;simp [wX,A',B',C',h1,h2,h3,h4,QA,kU,FP.heapy]
 | false=>
  cases eb:q.all with
  | true =>rw [eb,jU] at E;obtain ⟨h1,h2,h3,h4⟩:=hpx E hp;simp [wX,A',B',C',h1,h2,h3,h4,QA,kU,FP.heapy]
  | false=>
   rcases hp.h with h|⟨k1,k2,k3,k4⟩
   ·rw [ea] at h;cases h
   rcases hq.h with h|⟨l1,l2,l3,l4⟩
   ·rw [eb] at h;cases h
   have G':(p'.push&&q'.push)=false:=by
    cases e1:p'.push with
    | false=>rfl
    | true=>
     cases e2:q'.push with
     | false=>rfl
     | true=>rw [k3 e1,l3 e2] at G;cases G
   simp only [wX,A',B',C',k4,l4,qI,G',QC I k2 l1,QC J k2 l2,QC K l2 k1,Bool.or_self]
theorem M9 {l l':List FP} (ht:yHc l l'):∀ (pairs:List (Nat×Nat)),ylW l pairs=true→ylW l' pairs=true
 | [],_=>rfl
 | (i,j)::r,h=>by
  simp only [ylW,bZ] at h ⊢;refine ⟨?_,M9 ht r h.2⟩;have h1:=h.1;split at h1
  ·rename_i p q e1 e2;obtain ⟨p',k1,c1⟩:=yHc.get l l' ht i p e1;obtain ⟨q',k2,c2⟩:=yHc.get l l' ht j q e2;rw [k1,k2];simp only [lX] at h1 ⊢;exact yNZ h1 c1 c2
  ·cases h1
theorem LJ {E e:Env} (h:gV E e) (f:PV) (args:List PV):yuA e f args=yuA E f args:=by unfold gV at h;rw [h];rfl
theorem yLk {p q:PV} {H H1:Hp} (h:ycy H p=some (q,H1)):EffI (dA p) H H1 H H1:=by
 obtain ⟨H1',e,k⟩:=EC (H':=H) (fun _ _=>rfl) h;rw [h] at e
 cases e
 exact k
theorem QD:∀ (l ps:List PV) (H H1:Hp),yby H l=some (ps,H1)→H1.length=H.length∧∀ id,id∉fY l→H1[id]?=H[id]?
 | [],ps,H,H1,h=>by simp only [yby,cC,Prod.mk.injEq] at h;rw [← h.2];exact ⟨rfl,fun _ _=>rfl⟩
 | x::r,ps,H,H1,h=>by
  simp only [yby] at h;split at h
  ·rename_i y H2 hy;split at h
   ·rename_i ys H3 hys;simp only [cC,Prod.mk.injEq] at h;obtain ⟨_,rfl⟩:=h;obtain ⟨l1,o1⟩:=QD r ys H2 _ hys;have k:=yLk hy;refine ⟨l1.trans k.len.1,fun id hid=>?_⟩;simp only [fY,qA8,not_or] at hid;rw [o1 id hid.2,(k.out id hid.1).1]
   ·cases h
  ·cases h
theorem yLl {call:Nat→List PV→Hp→Option (PV×Hp)} {x:LocC} {H H1:Hp} {r:PV} (h:Ek call x H=some (r,H1)):∀ id,id∈dG 0 H H1→id∈x.id::fY (x.all.set x.j (.int .i64 0)):=by
 intro id hm;unfold Ek at h;split at h
 ·rename_i az H' hp;split at h
  ·rename_i b hb;split at h
   ·split at h
    ·rename_i q rows hq;simp only [cC,Prod.mk.injEq] at h;obtain ⟨_,rfl⟩:=h;obtain ⟨l1,o1⟩:=QD _ _ _ _ hp
     by_cases hi:id=x.id
     ·rw [hi];exact dS
     ·by_cases hj:id∈fY (x.all.set x.j (.int .i64 0))
      ·exact fC _ hj
      ·refine absurd hm ?_;have:=Qm 0 H (H'.set x.id { b with rows:=rows }) (by simp [l1]) id (by
        rw [qZ (fun e=>hi e.symm),o1 id hj])
       simpa using this
    ·cases h
   ·cases h
  ·cases h
 ·cases h
theorem QE {H H1:Hp} {l:List Nat} (h1:H1.length=H.length) (h2:∀ id,id∉l→H1[id]?=H[id]?):∀ id,id∈dG 0 H H1→id∈l:=by
 intro id hm
 by_cases hj:id∈l
 ·exact hj
 ·refine absurd hm ?_;have:=Qm 0 H H1 h1 id (h2 id hj);simpa using this
theorem yN0 {e:Env} {call:Nat→List PV→Hp→Option (PV×Hp)} {n:Nat} {first captured vs:List PV} {H H1:Hp} {r:PV} (hq:e.qui n=true) (h:sV e call (.fn (.func n) first captured) vs H=some (r,H1)):∀ id,id∈dG 0 H H1→id∈fY (first++vs++captured):=by
 simp only [sV,hq,if_true] at h;split at h
 ·split at h
  ·split at h
   ·split at h
    ·cases h
     exact QE rfl fun _ _=>rfl
    ·cases h
   ·cases h
  ·cases h
 ·split at h
  ·rename_i x hx
   cases h
   split at hx
   ·rename_i az H' hp;obtain ⟨l1,o1⟩:=QD _ _ _ _ hp;split at hx
    ·split at hx
     ·cases hx
      exact QE rfl fun _ _=>rfl
     ·cases hx
      exact QE l1 o1
    ·cases hx
   ·cases hx
  ·cases h
theorem yQ9 {e:Env} (hl:gV E e) {call:Nat→List PV→Hp→Option (PV×Hp)} {F:aG} {H:Hp} {o:AOp} {out:Out} (h:yaI e call F H o=some out) (a b _ _:List Nat) :
  Cov ⟨a++(AT E F H o).rd,b++(AT E F H o).wr,(AT E F H o).hr,(AT E F H o).hw,(AT E F H o).push,(AT E F H o).all⟩
   ((⟨a++(aW E F H o).rd,b++(aW E F H o).wr,(aW E F H o).hr,(aW E F H o).hw,(aW E F H o).push,(aW E F H o).all⟩:FP).tight H out.h):=by
 unfold AT;split
 ·rename_i f az
  cases hq:wW E F f az with
  | true=>exact Cov.tight _ _ _
  | false=>
  rw [cond_false];split
  ·rename_i l hli;unfold yPm at hli;split at hli
   ·rename_i g vs hg hvs;have hg':evV e F f=some g:=by unfold gV at hl;rw [hl,yR];exact hg
    have hv':evs e F az=some vs:=by unfold gV at hl;rw [hl,HE];exact hvs
    simp only [yaI,hg',hv'] at h;split at h
    ·rename_i r H1 hr
     cases h
     have key:∀ id,id∈dG 0 H H1→id∈l:=by
      split at hli
      ·rename_i x hx
       cases hli
       simp only [ym7,(LJ hl g vs).trans hx] at hr;exact yLl hr
      ·rename_i hx;simp only [ym7,(LJ hl g vs).trans hx] at hr;split at hli
       ·rename_i n first captured
        cases hqu:E.qui n with
        | false=>rw [hqu] at hli;cases hli
        | true=>
         rw [hqu] at hli
         cases hli
         have:e.qui n=true:=by unfold gV at hl;rw [hl];exact hqu
         exact yN0 this hr
       ·cases hli
     simp only [aW,hq,jT,FP.tight,if_true];exact ⟨rfl,rfl,.inr ⟨fun _ h=>h,key,fun h=>h,rfl⟩⟩
    ·cases h
   ·cases hli
  ·exact Cov.tight _ _ _
 ·exact Cov.tight _ _ _
theorem QF {P:EP} (hP:aK P E) (hG:Good P callK) {an:List An} {F0:aG} {l0:List AO} {pairs:List (Nat×Nat)}:∀ (l:List AO) (i:Nat) (F:aG) (H:Hp) (ps:List FP) (K:aG→Hp→Prop),rK E callK an F0 l0 pairs l i F H ps K →
  ∃ F' H' qs,K F' H'∧ylW (ps.reverse++qs) pairs=true∧Eo F0 l0 l0=true∧∃ m0,∀ n e m,m0≤n→P n e→m0≤m→∃ qt,yHc qs qt∧yr2 e (ycl e m) l F H=some (F',H',qt)
 | [],i,F,H,ps,K,h=>by simp only [rK] at h;obtain ⟨h1,h⟩:=bT.1 h;simp only [bZ] at h1;exact ⟨F,H,[],h,by simpa using h1.1,h1.2,0,fun _ _ _ _ _ _=>⟨[],trivial,rfl⟩⟩
 | o::r,i,F,H,ps,K,h=>by
  simp only [rK] at h;have hfp:∀ n e,P n e→∀ F H,yf1 e F H o=yf1 E F H o:=by
   intro n e hp F H;have hl:=hP n e hp;unfold gV at hl;rw [hl];simp only [yf1,yNX]
  rcases yF8 h with ⟨hg,h⟩|⟨hg,h⟩
  ·obtain ⟨out,h,m0,hm⟩:=M6 hP hG h;split at h
   ·exact h.elim
   ·rename_i F' hF';rw [LD] at h;obtain ⟨F2,H2,qs,hk,ha,hb,m1,hm1⟩:=QF hP hG r (i+1) F' out.h (yMK E F H o::ps) K h;refine ⟨F2,H2,yMK E F H o::qs,hk,by simpa using ha,hb,max m0 m1,fun n e m hn hp hle=>?_⟩;obtain ⟨qt,ht,hq⟩:=hm1 n e m (by omega) hp (by omega);have ho:=hm n e m (by omega) hp (by omega);have e0:yk7 e (ycl e m) o (F,H)=some (F',out.h):=by
     simp only [yk7,hg,ho,hF',Option.map]
    refine ⟨(yf1 E F H o).tight H out.h::qt,⟨?_,ht⟩,?_⟩
    ·simp only [yf1,hg,yMK];exact yQ9 (hP n e hp) ho _ _ [] []
    ·simp only [yr2,e0,hq,hfp n e hp]
  ·obtain ⟨F2,H2,qs,hk,ha,hb,m1,hm1⟩:=QF hP hG r (i+1) (EJ F o.dst) H (fpNo o::ps) K h;refine ⟨F2,H2,fpNo o::qs,hk,by simpa using ha,hb,m1,fun n e m hn hp hle=>?_⟩;obtain ⟨qt,ht,hq⟩:=hm1 n e m hn hp hle;have e0:yk7 e (ycl e m) o (F,H)=some (EJ F o.dst,H):=by
    simp only [yk7,hg]
    cases o.dst<;>rfl
   have e2:yf1 E F H o=fpNo o:=by simp only [yf1,hg,fpNo]
   refine ⟨(fpNo o).tight H H::qt,⟨Cov.tight _ _ _,ht⟩,?_⟩;simp only [yr2,e0,hq,hfp n e hp,e2]
def jA (P:EP) (c:AC) (F:aG) (H:Hp) (Q:Ex→aG→Hp→Prop):Prop:=
 ∃ x F' H',Q x F' H'∧∃ m0,∀ n e m,m0≤n→P n e→m0≤m→exec e m c F H=some (x,F',H')
def bU (P:EP) (c:TC) (F:aG) (H:Hp) (Q:Ex→aG→Hp→Prop):Prop:=jA P (dQ c) F H Q
def gW:TC→Bool
 | .seq a b | .cond _ a b=>gW a&&gW b
 | .block _ b=>gW b
 | .loop _ b=>gW b
 | .lG _ b=>gW b
 | .join _ b=>gW b
 | .rangeF _ _ _ _ _ _ _=>false
 | _=>true
def LpOk (P:EP) (E:Env) (lp:LP) (G:aG):TC→Prop
 | .seq a b=>LpOk P E lp G a∧LpOk P E lp G b
 | .cond _ a b=>LpOk P E lp G a∧LpOk P E lp G b
 | .block _ b=>LpOk P E lp G b
 | .loop id b=>LpOk P E lp G b∧∀ F H Q,lp id G F H Q→bU P (.loop id b) F H Q
 | .lG id b=>LpOk P E lp G b∧∀ F H Q,lp id G F H Q→bU P (.lG id b) F H Q
 | .join id b=>LpOk P E lp G b∧∀ F H Q,lp id G F H Q→bU P (.join id b) F H Q
 | .rangeF _ f np ib ps az bd=>(∃ rs,E.fns f=some ⟨np,rs,dQ ib⟩∧rs.length=0)∧(gW ib=true∧gW az=true∧gW bd=true)∧(∀ G,LpOk (Rng E G ps (dQ az) (dQ bd)) E lp G ib)∧LpOk (K6 E) E lp [] az∧LpOk (K6 E) E lp [] bd
 | _=>True
def mG:TC→List (Nat×TC)
 | .seq a b | .cond _ a b=>mG a++mG b
 | .block _ b=>mG b
 | .loop id b=>mG b++[(id,.loop id b)]
 | .lG id b=>mG b++[(id,.lG id b)]
 | .join id b=>mG b++[(id,.join id b)]
 | _=>[]
theorem yS {P:EP} {E:Env} {lp:LP} {G:aG}:∀ (c:TC),gW c=true→(∀ p∈mG c,∀ F H Q,lp p.1 G F H Q→bU P p.2 F H Q)→LpOk P E lp G c
 | .skip,_,_ | .ops _ _ _ _,_,_ | .exit _,_,_ | .ret,_,_ | .bad,_,_ | .yret _ _ _ _ _ _ _,_,_ | .cut _,_,_=>trivial
 | .rangeF _ _ _ _ _ _ _,hf,_=>by simp [gW] at hf
 | .seq a b,hf,h=>by simp only [gW,bZ] at hf;exact ⟨yS a hf.1 fun p hp=>h p (by simp only [mG,qA8];exact .inl hp),yS b hf.2 fun p hp=>h p (by simp only [mG,qA8];exact .inr hp)⟩
 | .cond _ a b,hf,h=>by simp only [gW,bZ] at hf;exact ⟨yS a hf.1 fun p hp=>h p (by simp only [mG,qA8];exact .inl hp),yS b hf.2 fun p hp=>h p (by simp only [mG,qA8];exact .inr hp)⟩
 | .block _ b,hf,h=>yS b hf h
 | .loop id b,hf,h=>⟨yS b hf fun p hp=>h p (by simp only [mG,qA8];exact .inl hp),h (id,.loop id b) (by simp [mG])⟩
 | .lG id b,hf,h=>⟨yS b hf fun p hp=>h p (by simp only [mG,qA8];exact .inl hp),h (id,.lG id b) (by simp [mG])⟩
 | .join id b,hf,h=>⟨yS b hf fun p hp=>h p (by simp only [mG,qA8];exact .inl hp),h (id,.join id b) (by simp [mG])⟩
def cF (P:EP) (E:Env) (yk:YK):Prop:=∀ vs H K,yk vs H K→∃ r H',K r H'∧∃ m0,∀ n e,m0≤n→P n e→e.yl e.yn E.yn vs H=some (r,H')
theorem cF.no (P:EP) (E:Env):cF P E yQ:=fun _ _ _ h=>h.elim
def bA (P:EP) (E:Env) (callK:CK) (c:TC):Prop:=gW c=false→Good (bC E) callK∧∀ n e,P n e→e=E
theorem jA.up {P:EP} {c:AC} {F:aG} {H:Hp} {Q:Ex→aG→Hp→Prop} {x:Ex} {F':aG} {H':Hp} {m0:Nat} (hk:Q x F' H') (h:∀ n e k,m0≤n→P n e→m0≤k→exec e (k+1) c F H=some (x,F',H')):jA P c F H Q:=
 ⟨x,F',H',hk,m0+1,fun n e m hn hp hm=>by
  obtain ⟨k,rfl⟩:∃ k,m=k+1:=⟨m-1,by omega⟩;exact h n e k (by omega) hp (by omega)⟩
theorem yT {lp:LP}:∀ (c:TC) (P:EP) (_:aK P E) (_:Good P callK) (_:bA P E callK c) (G:aG) (yk:YK) (_:cF P E yk) (_:LpOk P E lp G c) (F:aG) (H:Hp) (Q:Ex→aG→Hp→Prop),WC E callK lp G yk c F H Q→jA P (dQ c) F H Q
 | .skip,P,hP,hG,hR,G,yk,hY,_,F,H,Q,h=>by simp only [WC] at h;exact jA.up (m0:=0) h fun n e k _ _ _=>by simp only [dQ,exec]
 | .exit id,P,hP,hG,hR,G,yk,hY,_,F,H,Q,h=>by simp only [WC] at h;exact jA.up (m0:=0) h fun n e k _ _ _=>by simp only [dQ,exec]
 | .ret,P,hP,hG,hR,G,yk,hY,_,F,H,Q,h=>by simp only [WC] at h;exact jA.up (m0:=0) h fun n e k _ _ _=>by simp only [dQ,exec]
 | .bad,P,hP,hG,hR,G,yk,hY,_,F,H,Q,h=>by simp only [WC] at h
 | .cut _,P,hP,hG,hR,G,yk,hY,_,F,H,Q,h=>by simp only [WC] at h
 | .ops l an ps fg,P,hP,hG,hR,G,yk,hY,_,F,H,Q,h=>by
  cases ps with
  | nil =>simp only [WC] at h;obtain ⟨F',H',hk,m0,hm⟩:=Qz hP hG l 0 F H _ h;rw [LD] at hk;exact jA.up (m0:=m0) hk fun n e k hn hp hle=>by simp only [dQ,exec,ynL,hm n e k hn hp hle]
  | cons p ps=>
   simp only [WC] at h;obtain ⟨F',H',qs,hk,ha,hb,m0,hm⟩:=QF hP hG l 0 _ H [] _ h;rw [LD] at hk;refine jA.up (m0:=m0) hk fun n e k hn hp hle=>?_
   obtain ⟨qt,ht,hq⟩:=hm n e k hn hp hle;simp only [dQ,exec,ynL,hq];rw [Tu ⟨M9 ht _ (by simpa using ha),hb⟩]
 | .seq a b,P,hP,hG,hR,G,yk,hY,hl,F,H,Q,h=>by
  simp only [WC] at h;simp only [LpOk] at hl;have hRa:bA P E callK a:=fun hf=>hR (by simp only [gW,hf,qI])
  have hRb:bA P E callK b:=fun hf=>hR (by simp only [gW,hf,Bool.and_false])
  obtain ⟨x,F',H',hk,m0,hm⟩:=yT a P hP hG hRa G yk hY hl.1 F H _ h
  cases x with
  | norm =>obtain ⟨x2,F2,H2,hk2,m1,hm1⟩:=yT b P hP hG hRb G yk hY hl.2 F' H' Q hk;exact jA.up (m0:=max m0 m1) hk2 fun n e k hn hp hle=>by simp only [dQ,exec,hm n e k (by omega) hp (by omega),hm1 n e k (by omega) hp (by omega)]
  | exit i=>exact jA.up (m0:=m0) hk fun n e k hn hp hle=>by simp only [dQ,exec,hm n e k hn hp hle]
  | ret=>exact jA.up (m0:=m0) hk fun n e k hn hp hle=>by simp only [dQ,exec,hm n e k hn hp hle]
  | brk _ _=>exact jA.up (m0:=m0) hk fun n e k hn hp hle=>by simp only [dQ,exec,hm n e k hn hp hle]
 | .cond c a b,P,hP,hG,hR,G,yk,hY,hl,F,H,Q,h=>by
  simp only [WC] at h;simp only [LpOk] at hl;have hRa:bA P E callK a:=fun hf=>hR (by simp only [gW,hf,qI])
  have hRb:bA P E callK b:=fun hf=>hR (by simp only [gW,hf,Bool.and_false])
  split at h
  ·rename_i t ht;have hte:∀ n e,P n e→evV e F c=some (.bool t):=fun n e hp=>by
    have hl:=hP n e hp;unfold gV at hl;rw [hl,yR];exact ht
   obtain ⟨h1,h2⟩:=rI.1 h
   cases t with
   | true =>obtain ⟨x,F',H',hk,m0,hm⟩:=yT a P hP hG hRa G yk hY hl.1 F H Q (M7 ht ▸ h1 rfl);exact jA.up (m0:=m0) hk fun n e k hn hp hle=>by simp only [dQ,exec,hte n e hp,hm n e k hn hp hle]
   | false =>obtain ⟨x,F',H',hk,m0,hm⟩:=yT b P hP hG hRb G yk hY hl.2 F H Q (M7 ht ▸ h2 rfl);exact jA.up (m0:=m0) hk fun n e k hn hp hle=>by simp only [dQ,exec,hte n e hp,hm n e k hn hp hle]
  ·exact h.elim
 | .block id b,P,hP,hG,hR,G,yk,hY,hl,F,H,Q,h=>by
  simp only [WC] at h;simp only [LpOk] at hl;have hRb:bA P E callK b:=fun hf=>hR (by simp only [gW,hf])
  obtain ⟨x,F',H',hk,m0,hm⟩:=yT b P hP hG hRb G yk hY hl F H _ h
  cases x with
  | norm=>exact jA.up (m0:=m0) hk fun n e k hn hp hle=>by simp only [dQ,exec,hm n e k hn hp hle]
  | exit i=>
   simp only at hk
   cases hb:Nat.beq i id with
   | true =>rw [hb] at hk;have e:=fL hb;subst e;exact jA.up (m0:=m0) (x:=.norm) hk fun n e k hn hp hle=>by simp only [dQ,exec,hm n e k hn hp hle,if_true]
   | false=>
    rw [hb] at hk;have e:¬i=id:=fun e=>by subst e;rw [Nat.beq_refl] at hb;cases hb
    exact jA.up (m0:=m0) (x:=.exit i) hk fun n e' k hn hp hle=>by simp only [dQ,exec,hm n e' k hn hp hle,e,if_false]
  | ret=>exact jA.up (m0:=m0) hk fun n e k hn hp hle=>by simp only [dQ,exec,hm n e k hn hp hle]
  | brk _ _=>exact jA.up (m0:=m0) hk fun n e k hn hp hle=>by simp only [dQ,exec,hm n e k hn hp hle]
 | .loop id b,P,hP,hG,hR,G,yk,hY,hl,F,H,Q,h=>by simp only [WC] at h;simp only [LpOk] at hl;exact hl.2 F H Q h
 | .lG id b,P,hP,hG,hR,G,yk,hY,hl,F,H,Q,h=>by simp only [WC] at h;simp only [LpOk] at hl;exact hl.2 F H Q h
 | .join id b,P,hP,hG,hR,G,yk,hY,hl,F,H,Q,h=>by simp only [WC] at h;simp only [LpOk] at hl;exact hl.2 F H Q h
 | .yret ..,P,hP,hG,hR,G,yk,hY,_,F,H,Q,h=>by simp only [WC] at h
 | .rangeF ..,P,hP,hG,hR,G,yk,hY,_,F,H,Q,h=>by simp only [WC] at h
theorem bU.intro {id:Nat} {P:EP} (hP:aK P E) (hG:Good P callK) {lp:LP} {b:TC} (hf:gW b=true) {G:aG} {yk:YK} (hY:cF P E yk) (hl:LpOk P E lp G b) {Q:Ex→aG→Hp→Prop} (R:Nat→aG→Hp→Prop) (h0:∀ F H,¬R 0 F H)
  (hs:∀ n F H,R (n+1) F H→WC E callK lp G yk b F H fun x F' H'=>match x with | .norm=>R n F' H' | .exit i=>Q (.exit i) F' H' | .ret=>Q .ret F' H' | .brk k i=>Q (.brk k i) F' H') :
  ∀ n F H,R n F H→bU P (.loop id b) F H Q
 | 0,F,H,h=>(h0 F H h).elim
 | n+1,F,H,h=>by
  obtain ⟨x,F',H',hk,m0,hm⟩:=yT b P hP hG (fun hf'=>by rw [hf] at hf';cases hf') G yk hY hl F H _ (hs n F H h)
  cases x with
  | norm =>have hk:R n F' H':=hk;obtain ⟨x2,F2,H2,hk2,m1,hm1⟩:=bU.intro (id:=id) hP hG hf hY hl R h0 hs n F' H' hk;simp only [dQ] at hm1;exact jA.up (m0:=max m0 m1) hk2 fun n e k hn hp hle=>by simp only [dQ,exec,hm n e k (by omega) hp (by omega),hm1 n e k (by omega) hp (by omega)]
  | exit i=>exact jA.up (m0:=m0) hk fun n e k hn hp hle=>by simp only [dQ,exec,hm n e k hn hp hle]
  | ret=>exact jA.up (m0:=m0) hk fun n e k hn hp hle=>by simp only [dQ,exec,hm n e k hn hp hle]
  | brk _ _=>exact jA.up (m0:=m0) hk fun n e k hn hp hle=>by simp only [dQ,exec,hm n e k hn hp hle]
theorem bU.introG {id:Nat} {P:EP} (hP:aK P E) (hG:Good P callK) {lp:LP} {b:TC} (hf:gW b=true) {G:aG} {yk:YK} (hY:cF P E yk) (hl:LpOk P E lp G b) {Q:Ex→aG→Hp→Prop} (R:Nat→aG→Hp→Prop) (h0:∀ F H,¬R 0 F H)
  (hs:∀ n F H,R (n+1) F H→WC E callK lp G yk b F H fun x F' H'=>match x with | .norm=>R n F' (BU F' H.length H') | .exit i=>Q (.exit i) F' H' | .ret=>Q .ret F' H' | .brk k i=>Q (.brk k i) F' H') :
  ∀ n F H,R n F H→bU P (.lG id b) F H Q
 | 0,F,H,h=>(h0 F H h).elim
 | n+1,F,H,h=>by
  obtain ⟨x,F',H',hk,m0,hm⟩:=yT b P hP hG (fun hf'=>by rw [hf] at hf';cases hf') G yk hY hl F H _ (hs n F H h)
  cases x with
  | norm =>have hk:R n F' (BU F' H.length H'):=hk;obtain ⟨x2,F2,H2,hk2,m1,hm1⟩:=bU.introG (id:=id) hP hG hf hY hl R h0 hs n F' _ hk;simp only [dQ] at hm1;exact jA.up (m0:=max m0 m1) hk2 fun n e k hn hp hle=>by simp only [dQ,exec,hm n e k (by omega) hp (by omega),hm1 n e k (by omega) hp (by omega)]
  | exit i=>exact jA.up (m0:=m0) hk fun n e k hn hp hle=>by simp only [dQ,exec,hm n e k hn hp hle]
  | ret=>exact jA.up (m0:=m0) hk fun n e k hn hp hle=>by simp only [dQ,exec,hm n e k hn hp hle]
  | brk _ _=>exact jA.up (m0:=m0) hk fun n e k hn hp hle=>by simp only [dQ,exec,hm n e k hn hp hle]
end
def jZ (P:EP) (n:Nat) (az:List PV) (r:PV):Prop:=∃ m0,∀ k e m,m0≤k→P k e→m0≤m→yeZ e (ycl e m) n az=some r
def yU (E:Env) (n:Nat) (az:List PV) (r:PV):Prop:=jZ (bC E) n az r
def rM (E:Env) (n:Nat) (az:List PV) (r:PV):Prop:=jZ (Qt E) n az r
theorem jZ.sub {P P':EP} {n:Nat} {az:List PV} {r:PV} (h:jZ P n az r) (hs:∀ k e,P' k e→P k e):jZ P' n az r:=by obtain ⟨m0,hm⟩:=h;exact ⟨m0,fun k e m h1 h2 h3=>hm k e m h1 (hs k e h2) h3⟩
theorem yU.solo {E:Env} {n:Nat} {az:List PV} {r:PV} (h:yU E n az r):rM E n az r:=jZ.sub h fun _ e h=>by cases h;rfl
def HG (E:Env):Prop:=∀ n az H x,E.eff n az H=some x→E.qui n=false∧E.frz n=false∧(∀ az,E.sum n az=none)∧E.rb n=false
def uR (P:EP) (n:Nat) (az:List PV) (b:HB) (q:PV) (rows:List PV):Prop:=∃ m0,∀ k e m,m0≤k→P k e→m0≤m→yGJ (ycl e m) n az b=some (q,rows)
structure SEOk (P:EP) (S:SE):Prop where
 sb:aK P S.E
 sum:∀ n wp,S.sumK n=some wp→∀ az K,wp az K→∃ r,K r∧jZ P n az r
 inl:∀ n fn,S.inl n=some fn→S.E.fns n=some fn.fn∧S.E.qui n=false∧S.E.frz n=false∧(∀ az,S.E.sum n az=none)∧(∀ az H,S.E.eff n az H=none)∧gW fn.body=true∧LpOk P S.E S.lp [] fn.body
 eff:HG S.E
 sumL:∀ n wp,S.sumL n=some wp→∀ az b K,wp az b K→∃ q rows,K q rows∧uR P n az b q rows
section
variable {S:SE} {P:EP} {callK:CK} {H:Hp}
theorem yV {E e:Env} (h:gV E e):e.fns=E.fns∧e.sum=E.sum∧e.qui=E.qui∧e.frz=E.frz∧e.rb=E.rb∧e.nl=E.nl∧e.eff=E.eff:=by unfold gV at h;rw [h];exact ⟨rfl,rfl,rfl,rfl,rfl,rfl,rfl⟩
theorem QG (hP:aK P S.E) (hG:Good P callK) {fn:TFn} (hR:bA P S.E callK fn.body) (hl:LpOk P S.E S.lp [] fn.body) {n:Nat} (hf:S.E.fns n=some fn.fn) (he:∀ az H,S.E.eff n az H=none) {args:List PV} {K:PV→Hp→Prop} (h:LE S.E callK S.lp fn args H K) :
  ∃ r H',K r H'∧∃ m0,∀ k e m,m0≤k→P k e→m0≤m→ycl e m n args H=some (r,H'):=by
 obtain ⟨h1,h⟩:=bT.1 h;have h1:args.length=fn.nparams:=by simpa using h1
 obtain ⟨x,F',H',hk,m0,hm⟩:=yT fn.body P hP hG hR [] yQ (cF.no _ _) hl _ H _ h;have key:(match yjT F' H' fn.results with | some ps=>K (rD ps) H' | none=>False)→(x=.norm∨x=.ret) →
   ∃ r H',K r H'∧∃ m0,∀ k e m,m0≤k→P k e→m0≤m→ycl e m n args H=some (r,H'):=by
  intro hk hx;split at hk
  ·rename_i ps hps;refine ⟨_,_,hk,m0+1,fun k e m hkl hp hle=>?_⟩;obtain ⟨q,rfl⟩:∃ q,m=q+1:=⟨m-1,by omega⟩;have e0:=hm k e q (by omega) hp (by omega);obtain ⟨l1,_,_,_,_,_,l7⟩:=yV (hP k e hp);simp only [ycl,Env.effx,qL,l7,l1,he,hf,TFn.fn,h1,if_true];rw [e0];rcases hx with rfl | rfl<;>simp only [hps]
  ·exact hk.elim
 cases x with
 | norm=>exact key hk (.inl rfl)
 | exit i=>exact hk.elim
 | brk _ _=>exact hk.elim
 | ret=>exact key hk (.inr rfl)
theorem yN1 {H:Hp} {x:PV} {K:PV→Hp→Prop} (h:LF H x K):∃ q H',K q H'∧yFM H x=some (q,H'):=by
 cases x with
 | tup ps =>simp only [LF] at h;obtain ⟨ys,H',h,e⟩:=HF ps H _ h;exact ⟨_,_,h,by simp only [yFM,e]⟩
 | _ =>simp only [LF] at h;obtain ⟨y,H',h,e⟩:=EL h;exact ⟨_,_,h,by simp only [yFM,e]⟩
theorem LK {e:Env} {call:Nat→List PV→Hp→Option (PV×Hp)} {f:PV} {args:List PV} (h:yuA e f args=none):ym7 e call f args H=sV e call f args H:=by simp only [ym7,h]
theorem cL (hS:SEOk P S):∀ d,Good P (uQ S d)
 | 0,f,args,H,K,h=>h.elim
 | d+1,f,args,H,K,h=>by
  unfold uQ at h;split at h
  ·rename_i n first captured;split at h
   ·rename_i x hx;split at h
    ·rename_i wp hwp;unfold HD at h;obtain ⟨az,H',h,hp⟩:=HF _ _ _ h;split at h
     ·rename_i b hb;obtain ⟨hc,h⟩:=bT.1 h;simp only [bZ,lX] at hc;obtain ⟨q,rows,hk,m0,hm⟩:=hS.sumL _ wp hwp _ _ _ h;refine ⟨q,_,hk,m0,fun k e m hkl he hle=>?_⟩;simp only [ym7,LJ (hS.sb k e he),hx,Ek,hp,hb];rw [Tu hc];simp only [hm k e m hkl he hle]
     ·exact h.elim
    ·exact h.elim
   rename_i hx;have hx':∀ k e,P k e→yuA e (.fn (.func n) first captured) args=none:=fun k e he=>(LJ (hS.sb k e he) _ _).trans hx
   split at h
   ·rename_i wp hwp
    cases hb:S.E.rb n with
    | true =>rw [hb,cond_true] at h;obtain ⟨az,h,hp⟩:=M2 _ _ h;obtain ⟨r,hk,m0,hm⟩:=hS.sum n wp hwp az _ h;obtain ⟨hs,hk⟩:=bT.1 hk;refine ⟨r,_,hk,m0,fun k e m hkl he hle=>?_⟩;obtain ⟨_,_,_,_,l5,_,_⟩:=yV (hS.sb k e he);rw [LK (hx' k e he)];simp only [sV,l5,hb,if_true,hp,hm k e m hkl he hle,hs]
    | false=>
     rw [hb,cond_false] at h;obtain ⟨az,H',h,hp⟩:=HF _ _ _ h;obtain ⟨r,hk,m0,hm⟩:=hS.sum n wp hwp az _ h;refine ⟨r,_,hk,m0,fun k e m hkl he hle=>?_⟩;obtain ⟨_,_,_,_,l5,_,_⟩:=yV (hS.sb k e he);rw [LK (hx' k e he)];simp only [sV,l5,hb,kG,if_false,hp,hm k e m hkl he hle]
     cases r.scalar<;>simp
   ·split at h
    ·rename_i fn hfn;obtain ⟨h1,h2,h3,h4,h6,h7,h5⟩:=hS.inl n fn hfn
     cases hb:S.E.rb n with
     | true =>rw [hb,cond_true] at h;exact h.elim
     | false=>
      rw [hb,cond_false] at h;obtain ⟨r,H',hk,m0,hm⟩:=QG hS.sb (cL hS d) (fun hf=>by rw [h7] at hf;cases hf) h5 h1 h6 h;refine ⟨r,H',hk,m0,fun k e m hkl he hle=>?_⟩;obtain ⟨_,l2,l3,l4,l5,_,_⟩:=yV (hS.sb k e he);have e0:∀ az,yeZ e (ycl e m) n az=none:=by
       intro az;simp only [yeZ,l2,l3,h4 az,h2];rfl
      rw [LK (hx' k e he)];simp only [sV,e0,l3,l4,l5,h2,h3,hb]
      cases yby H (first++args++captured)<;>simp only [kG,if_false,hm k e m hkl he hle]
    ·split at h
     ·rename_i c t x y he;obtain ⟨hc,h⟩:=bT.1 h;subst hc;obtain ⟨h2,h3,h4,h7⟩:=hS.eff n _ _ _ he;obtain ⟨r,H',h,hrt⟩:∃ r H',K r H'∧(bif t then x else y)=(r,H'):=by
       cases t with
       | true=>exact ⟨_,_,h,rfl⟩
       | false=>exact ⟨_,_,h,rfl⟩
      refine ⟨r,H',h,1,fun k e m hkl hp hle=>?_⟩;obtain ⟨k,rfl⟩:∃ k,m=k+1:=⟨m-1,by omega⟩;obtain ⟨_,l2,l3,l4,l5,_,l7⟩:=yV (hS.sb _ e hp);have e0:∀ az,yeZ e (ycl e (k+1)) n az=none:=by
       intro az;simp only [yeZ,l2,l3,h4 az,h2];rfl
      have hi:ycl e (k+1) n (first++args++captured) H=some (r,H'):=by simp only [ycl,Env.effx,qL,l7,he,hrt]
      rw [LK (hx' _ e hp)];simp only [sV,e0,l3,l4,l5,h2,h3,h7]
      cases yby H (first++args++captured)<;>simp only [kG,if_false,hi]
     ·exact h.elim
  ·exact h.elim
theorem ySK (hS:SEOk P S) {d:Nat} {fn:TFn} {n:Nat} (hR:bA P S.E (uQ S d) fn.body) (hl:LpOk P S.E S.lp [] fn.body) (hf:S.E.fns n=some fn.fn) (hq:S.E.qui n=true) (hs:∀ az,S.E.sum n az=none) (he:∀ az H,S.E.eff n az H=none) {az:List PV} {K:PV→Prop} (h:WP S d fn az K) (hn:S.E.nl n=false:=by kernel_rfl) :
  ∃ r,K r∧jZ P n az r:=by
 unfold WP at h;obtain ⟨r,H',hk,m0,hm⟩:=QG hS.sb (cL hS d) hR hl hf he h;obtain ⟨q,hk,hq'⟩:=yPp hk;refine ⟨q,hk,m0,fun k e m hkl hp hle=>?_⟩;obtain ⟨_,l2,l3,_,_,l6,_⟩:=yV (hS.sb k e hp);simp only [yeZ,l2,l3,l6,hs az,hq,hm k e m hkl hp hle,hn,mL,cond_false,hq',if_true]
theorem uS (hS:SEOk P S) {d:Nat} {fn:TFn} {n:Nat} (hR:bA P S.E (uQ S d) fn.body) (hl:LpOk P S.E S.lp [] fn.body) (hf:S.E.fns n=some fn.fn) (he:∀ az H,S.E.eff n az H=none) {az:List PV} {b:HB} {K:PV→List PV→Prop} (h:rL S d fn az b K) :
  ∃ q rows,K q rows∧uR P n az b q rows:=by
 unfold rL at h;obtain ⟨r,H',hk,m0,hm⟩:=QG hS.sb (cL hS d) hR hl hf he h;obtain ⟨q,H2,hk,hq'⟩:=yN1 hk;split at hk
 ·rename_i b2 hb2;obtain ⟨hc,hk⟩:=bT.1 hk;simp only [bZ,lX,decide_eq_true_eq] at hc;refine ⟨q,_,hk,m0,fun k e m hkl hp hle=>?_⟩;simp only [yGJ,hm k e m hkl hp hle,hq',hb2];rw [Tu hc]
 ·exact hk.elim
theorem bA.flat {E:Env} {c:TC} (h:gW c=true:=by kernel_rfl):bA P E callK c:=fun hf=>by rw [h] at hf;cases hf
end
def uT (P:EP) (lp:LP) (G:aG):List (Nat×TC)→Prop
 | []=>True
 | p::r=>(∀ F H Q,lp p.1 G F H Q→bU P p.2 F H Q)∧uT P lp G r
theorem uT.mem {P:EP} {lp:LP} {G:aG}:∀ {l:List (Nat×TC)},uT P lp G l→∀ p∈l,∀ F H Q,lp p.1 G F H Q→bU P p.2 F H Q
 | [],_,p,hp=>by cases hp
 | q::r,h,p,hp=>by
  rcases qAo.1 hp with rfl|hp
  ·exact h.1
  ·exact uT.mem h.2 p hp
theorem bU.intoJ {S:Nat} {P:EP} {E:Env} {callK:CK} {lp:LP} {b:TC} {G F:aG} {H:Hp} {yk:YK} {Q:Ex→aG→Hp→Prop} (hP:aK P E) (hG:Good P callK) (hY:cF P E yk) (hl:LpOk P E lp G b) (hf:gW b=true) (h:WC E callK lp G yk b F H Q):bU P (.join S b) F H Q:=
 yT b P hP hG (fun k=>by rw [hf] at k;cases k) G yk hY hl F H Q h
theorem cZ {P:EP} {E:Env} {lp:LP} {G:aG} {c:TC} {l:List (Nat×TC)} (h:uT P lp G l) (e:mG c=l) (hf:gW c=true:=by kernel_rfl):LpOk P E lp G c:=yS c hf (by rw [e];exact h.mem)
theorem aZ {P:EP} {E:Env} {lp:LP} {G:aG} {c:TC} (e:mG c=[]) (hf:gW c=true:=by kernel_rfl):LpOk P E lp G c:=cZ (l:=[]) trivial e hf
def ygn:List (Nat×(List PV→(PV→Prop)→Prop))→Nat→Option (List PV→(PV→Prop)→Prop)
 | [],_=>none
 | (k,f)::r,n=>bif Nat.beq k n then some f else ygn r n
def ygo:List (Nat×TFn)→Nat→Option TFn
 | [],_=>none
 | (k,f)::r,n=>bif Nat.beq k n then some f else ygo r n
def uU (P:EP):List (Nat×(List PV→(PV→Prop)→Prop))→Prop
 | []=>True
 | (k,f)::r=>(∀ az K,f az K→∃ q,K q∧jZ P k az q)∧uU P r
def uV (P:EP) (E:Env) (lp:LP):List (Nat×TFn)→Prop
 | []=>True
 | (k,f)::r=>(E.fns k=some f.fn∧E.qui k=false∧E.frz k=false∧(∀ az,E.sum k az=none)∧(∀ az H,E.eff k az H=none)∧gW f.body=true∧LpOk P E lp [] f.body)∧uV P E lp r
theorem QH {P:EP}:∀ (l:List (Nat×(List PV→(PV→Prop)→Prop))),uU P l→∀ n wp,ygn l n=some wp→∀ az K,wp az K→∃ r,K r∧jZ P n az r
 | [],_,_,_,h=>by simp [ygn] at h
 | (k,f)::r,hl,n,wp,h=>by
  simp only [uU] at hl;simp only [ygn] at h
  cases hc:Nat.beq k n with
  | true =>rw [hc] at h;simp only [cond_true,cC] at h;have:=fL hc;subst this;subst h;exact hl.1
  | false =>rw [hc] at h;exact QH r hl.2 n wp (by simpa using h)
theorem QI {P:EP} {E:Env} {lp:LP}:∀ (l:List (Nat×TFn)),uV P E lp l→∀ n fn,ygo l n=some fn→E.fns n=some fn.fn∧E.qui n=false∧E.frz n=false∧(∀ az,E.sum n az=none)∧(∀ az H,E.eff n az H=none)∧gW fn.body=true∧LpOk P E lp [] fn.body
 | [],_,_,_,h=>by simp [ygo] at h
 | (k,f)::r,hl,n,fn,h=>by
  simp only [uV] at hl;simp only [ygo] at h
  cases hc:Nat.beq k n with
  | true =>rw [hc] at h;simp only [cond_true,cC] at h;have:=fL hc;subst this;subst h;exact hl.1
  | false =>rw [hc] at h;exact QI r hl.2 n fn (by simpa using h)
def ymi:List (Nat×(List PV→HB→(PV→List PV→Prop)→Prop))→Nat→Option (List PV→HB→(PV→List PV→Prop)→Prop)
 | [],_=>none
 | (k,f)::r,n=>bif Nat.beq k n then some f else ymi r n
def LM (P:EP):List (Nat×(List PV→HB→(PV→List PV→Prop)→Prop))→Prop
 | []=>True
 | (k,f)::r=>(∀ az b K,f az b K→∃ q rows,K q rows∧uR P k az b q rows)∧LM P r
theorem N0 {P:EP}:∀ (l:List (Nat×(List PV→HB→(PV→List PV→Prop)→Prop))),LM P l→∀ n wp,ymi l n=some wp→∀ az b K,wp az b K→∃ q rows,K q rows∧uR P n az b q rows
 | [],_,_,_,h=>by simp [ymi] at h
 | (k,f)::r,hl,n,wp,h=>by
  simp only [LM] at hl;simp only [ymi] at h
  cases hc:Nat.beq k n with
  | true =>rw [hc] at h;simp only [cond_true,cC] at h;have:=fL hc;subst this;subst h;exact hl.1
  | false =>rw [hc] at h;exact N0 r hl.2 n wp (by simpa using h)
theorem xC {P:EP} {E:Env} {ls:List (Nat×(List PV→(PV→Prop)→Prop))} {li:List (Nat×TFn)} {lp:LP} {ll:List (Nat×(List PV→HB→(PV→List PV→Prop)→Prop))} (hb:aK P E) (hs:uU P ls) (hi:uV P E lp li) (he:HG E) (hL:LM P ll):SEOk P ⟨E,ygn ls,ygo li,lp,ymi ll⟩ where
 sb:=hb
 sum:=fun n wp h=>QH ls hs n wp h
 inl:=fun n fn h=>QI li hi n fn h
 eff:=he
 sumL:=fun n wp h=>N0 ll hL n wp h
theorem bK {P:EP} {E:Env} {ls:List (Nat×(List PV→(PV→Prop)→Prop))} {li:List (Nat×TFn)} {lp:LP} (hb:aK P E) (hs:uU P ls) (hi:uV P E lp li) (he:HG E):SEOk P ⟨E,ygn ls,ygo li,lp,fun _=>none⟩ where
 sb:=hb
 sum:=fun n wp h=>QH ls hs n wp h
 inl:=fun n fn h=>QI li hi n fn h
 eff:=he
 sumL:=fun n wp h=>by cases h
theorem N1 {add sub n:Nat} (h1:Nat.beq n add=false) (h2:Nat.beq n sub=false) (az:List PV):sumC add sub n az=none:=by
 unfold sumC;split
 ·rw [h1,h2];rfl
 ·rfl
def EQ (p0 p1 p2:Int) (K:Int→Int→Prop):Prop:=
 aB (decide (p2.toNat≤1)) (K (((p0.toNat+p1.toNat+p2.toNat)%18446744073709551616:Nat):Int) (((p0.toNat+p1.toNat+p2.toNat)/18446744073709551616:Nat):Int))
def uW:List PV:=([0,1,2,2,3,3,3,3,4,4,4,4,4,4,4,4,5,5,5,5,5,5,5,5,5,5,5,5,5,5,5,5,6,6,6,6,6,6,6,6,6,6,6,6,6,6,6,6,6,6,6,6,6,6,6,6,6,6,6,6,6,6,6,6,7,7,7,7,7,7,7,7,7,7,7,7,7,7,7,7,7,7,7,7,7,7,7,7,7,7,7,7,7,7,7,7,7,7,7,7,7,7,7,7,7,7,7,7,7,7,7,7,7,7,7,7,7,7,7,7,7,7,7,7,7,7,7,7,8,8,8,8,8,8,8,8,8,8,8,8,8,8,8,8,8,8,8,8,8,8,8,8,8,8,8,8,8,8,8,8,8,8,8,8,8,8,8,8,8,8,8,8,8,8,8,8,8,8,8,8,8,8,8,8,8,8,8,8,8,8,8,8,8,8,8,8,8,8,8,8,8,8,8,8,8,8,8,8,8,8,8,8,8,8,8,8,8,8,8,8,8,8,8,8,8,8,8,8,8,8,8,8,8,8,8,8,8,8,8,8,8,8,8,8,8,8,8,8,8,8,8,8,8,8,8,8]:List Int).map (PV.int .u8)
def QJ (w:Int→Int→Int→(Int→Int→Prop)→Prop) (az:List PV) (K:PV→Prop):Prop:=
 match az with
 | [(.int .u64 p0),(.int .u64 p1),(.int .u64 p2)]=>w p0 p1 p2 (fun (r0:Int) (r1:Int)=>K (.tup [(.int .u64 r0),(.int .u64 r1)]))
 | _=>False
def yvE (az:List PV) (K:PV→Prop):Prop:=QJ EQ az K
def ER (p0 p1 p2:Int) (K:Int→Int→Prop):Prop:=
 aB (decide (p2.toNat≤1)) (K (((p0.toNat+18446744073709551616-p1.toNat-p2.toNat)%18446744073709551616:Nat):Int) ((bif Nat.ble (p1.toNat+p2.toNat) p0.toNat then 0 else 1:Nat):Int))
def QK (w:Int→Int→Int→(Int→Int→Prop)→Prop) (az:List PV) (K:PV→Prop):Prop:=
 match az with
 | [(.int .u64 p0),(.int .u64 p1),(.int .u64 p2)]=>w p0 p1 p2 (fun (r0:Int) (r1:Int)=>K (.tup [(.int .u64 r0),(.int .u64 r1)]))
 | _=>False
def yvG (az:List PV) (K:PV→Prop):Prop:=QK ER az K
theorem N2 {P:Program} {E:Env} (hE:EO P E) (hm:P.follows .mixedOrders=true) {n:Nat} {az:List PV} {r:PV} (hs:E.sum n az=none) (hq:E.qui n=true) (h:rM E n az r):qN P E.glob n az r:=by
 obtain ⟨m0,hm0⟩:=h;have:=hm0 m0 E m0 (cJ _) rfl (cJ _);simp only [yeZ,hs,hq,if_true] at this;refine I5 hE hm (n:=m0) ?_;unfold topV;split at this
 ·rename_i x H hx;rw [hx];exact this
 ·cases this
end Go.Pf
namespace Go.Pf
open Go Go.RowKit
section
variable {P:Program} {E:Env}
theorem yN2 {b:Bool} {call} (hc:ybJ P E call) {I:Nat→Prop} {w:World} {f:Nat} {args:List PV} {vs:List Value} {r q:PV} {H:Hp} (himm:∀ b,I b→b<w.heap.size)
  (hg:∀ n x,E.glob n=some x→I n∧∃ vs,0<vs.length∧RC I w x vs∧At w n 0 vs) (hv:bW ⟨fun _=>none,fun _=>none,I,fun _=>none⟩ [] w args vs) (hin:call f args []=some (r,H)) (h:mL b H r=some q) :
  nA P f vs.toArray w fun v w'=>Bel w.heap.size w w'∧VP (fun b=>I b∨(w.heap.size≤b∧b<w'.heap.size)) w' q v:=by
 let g0:Gh:=⟨fun _=>none,fun _=>none,I,fun _=>none⟩;have hr:Rel E 0 g0 [] [] #[] w:=by
  refine ⟨jV _,fun s fv e=>by simp [fget] at e,fun id hb e=>by simp at e,fun id id' hb b o b' o' e=>by simp at e,fun id b o e=>by simp [g0] at e,fun s s' b e=>by simp [g0] at e,fun s b id o e=>by simp [g0] at e,fun s b e=>by simp [g0] at e,himm,hg⟩
 refine (hc f args [] r H hin 0 g0 [] #[] w vs hr (Lps.none_ fun _=>rfl) hv).mono ?_;rintro v w' ⟨g',n1,r1,hvr⟩;obtain ⟨g2,H2,r2,n2,hvp⟩:=B8 r1 hvr h;have n3:=n1.trans n2;have noR:∀ b,¬RngR g0 b:=fun b ⟨id,o,e⟩=>by simp [g0] at e
 have noM:∀ b,¬mN g0 b:=fun b ⟨s,e⟩=>by simp [g0] at e
 refine ⟨⟨⟨n3.os,n3.tape,n3.output,n3.size,fun k hk=>n3.kept k hk (noR k) (noM k)⟩,n3.drawn⟩,PY (fun b hb=>⟨?_,rfl⟩) hvp⟩;rcases qA5 b w.heap.size with h1 | h1
 ·rcases hb with hb | hb
  ·rcases n3.immb b h1 hb with h2 | h2
   ·exact .inl h2
   ·exact absurd h2 (noR b)
  ·exact absurd (n3.rng b h1 hb) (noR b)
 ·exact .inr ⟨h1,hb.elim (r2.imm b) r2.brng⟩
theorem yR7 (hE:EO P E) (hm:P.follows .mixedOrders=true) {n f:Nat} {q:PV} (h:∀ b,topV E n f [.mt b]=some q):qN P E.glob f [.data []] q:=by
 intro I w vs himm hgl hv;simp only [gG,fF,RC] at hv;obtain ⟨v,vr,rfl,⟨a,len,cap,e,hl,hc,hm2,_⟩,rfl⟩:=hv;simp only [kH,and_true] at e;subst e;have hl:len=0:=hl;subst hl;have hh:=h a.isNone;unfold topV at hh;split at hh
 ·rename_i r H hin;refine yN2 (Lx hE hm n) himm hgl (args:=[.mt a.isNone]) ?_ hin hh;simp only [bW,VR];exact ⟨_,_,rfl,⟨a,cap,rfl,hm2,rfl⟩,rfl⟩
 ·cases hh
end
def uX (esz bytes:Nat) (z:PV):AFn:=⟨1,[.tmp 2],
 (.seq
  (.ops [⟨some 2,(.mv (.c .nils)),none⟩] [] [2])
  (.seq
   (.seq
    (.ops [⟨some 3,(.mv (.t 0)),none⟩,
     ⟨some 4,(.eqN false (.t 3)),none⟩] [] [3])
    (.cond (.t 4)
     (.seq (.ops [⟨some 2,(.mv (.c .nils)),none⟩] [] [0,4]) .ret)
     .skip))
   (.seq
    (.ops [⟨some 5,(.bSl true esz z 0 []),none⟩,
     ⟨some 6,(.mv (.t 0)),none⟩,
     ⟨some 7,(.app true esz bytes (.t 5) (.t 6)),none⟩,
     ⟨some 2,(.mv (.t 7)),none⟩] [] [0,4,5,6,7])
    .ret)))⟩
abbrev nB:=List (Nat×Nat×Nat)
def pJ (esz bytes:Nat) (rows:List PV):Bool:=iY esz rows&&decide ((rows.length+64)*(bytes+1)≤room)
def yiO:nB→Nat→List PV→Option PV
 | [],_,_=>none
 | (k,esz,bytes)::r,n,az=>bif Nat.beq k n then (match az with
  | [.data rows]=>(bif pJ esz bytes rows then some (.data rows) else none)
  | _=>none) else yiO r n az
def LN:nB→Nat→Bool
 | [],_=>false
 | (k,_,_)::r,n=>Nat.beq k n||LN r n
section
variable {P:Program} {E:Env}
theorem yPt {n esz bytes:Nat} {z:PV} (hf:E.fns n=some (uX esz bytes z)) (he:∀ az H,E.eff n az H=none) (hnl:E.nl n=false) (b:Bool):topV E 12 n [.mt b]=some (.data []):=by
 unfold topV
 cases b<;>simp [ycl,Env.effx,qL,he,exec,hf,uX,ynL,mY,yjS,yen,yaI,evV,ev,sZ,fget,dF,fdels,fP,kK,yeq,outV,Option.map,yjT,yAx,rD,mL,hnl,purR,ycy,yga,appV,yh0,iY,sU]
theorem yLo {n esz bytes:Nat} {z:PV} (hf:E.fns n=some (uX esz bytes z)) (he:∀ az H,E.eff n az H=none) (hnl:E.nl n=false) {x:PV} {r:List PV} (h:pJ esz bytes (x::r)=true):topV E 12 n [.data (x::r)]=some (.data (x::r)):=by simp only [pJ,bZ,decide_eq_true_eq,eR] at h;obtain ⟨h1,h2⟩:=h;unfold topV;simp [ycl,Env.effx,qL,he,exec,hf,uX,ynL,mY,yjS,yen,yaI,evV,ev,sZ,fget,dF,fdels,fP,kK,yeq,outV,Option.map,yjT,yAx,rD,mL,hnl,purR,ycy,yga,appV,yh0,h1,sU,ydm,h2]
theorem N3 (hE:EO P E) (hm:P.follows .mixedOrders=true) (he:∀ n az H,E.eff n az H=none) (hnl:∀ n,E.nl n=false):∀ (cl:nB),(∀ n esz bytes,(n,esz,bytes)∈cl→∃ z,E.fns n=some (uX esz bytes z))→∀ n az r,yiO cl n az=some r→qN P E.glob n az r
 | [],_,_,_,_,h=>by simp [yiO] at h
 | (k,esz,bytes)::t,hc,n,az,r,h=>by
  simp only [yiO] at h
  cases hb:Nat.beq k n with
  | false=>rw [hb] at h;exact N3 hE hm he hnl t (fun n e b hm=>hc n e b (fC _ hm)) n az r (by simpa using h)
  | true=>
   rw [hb] at h;have e:=fL hb;subst e;simp only [cond_true] at h;split at h
   ·rename_i rows
    cases hk:pJ esz bytes rows with
    | false=>rw [hk] at h;simp at h
    | true=>
     rw [hk] at h;simp only [cond_true,cC] at h;subst h;obtain ⟨z,hf⟩:=hc k esz bytes dS
     cases rows with
     | nil=>exact yR7 hE hm (fun b=>yPt hf (he k) (hnl k) b)
     | cons x r=>exact I5 hE hm (yLo hf (he k) (hnl k) hk)
   ·cases h
end
def N4:List (Nat×PV)→Nat→Option PV
 | [],_=>none
 | (k,a)::r,n=>bif Nat.beq k n then some a else N4 r n
theorem qN.any {P:Program} {G:Nat→Option PV} {f:FuncId} {az:List PV} {r:PV} (h:qN P (fun _=>none) f az r):qN P G f az r:=
 fun I w vs hI _ hv=>h I w vs hI (fun _ _ e=>nomatch e) hv
def tK (add sub:Nat) (tab:List (Nat×AFn)) (qui:List Nat) (cl:nB) (gl:List (Nat×PV)):Env:=
 { glob:=N4 gl,sum:=fun n az=>match sumC add sub n az with | some r=>some r | none=>yiO cl n az,fns:=yC6 tab,frz:=fun _=>false,qui:=memN qui,nl:=fun n=>memN qui (n+1000000),rb:=fun n=>memN qui (n+3000000),lo:=fun n=>bif memN qui (n+4000000) then some 1 else bif memN qui (n+5000000) then some 0 else bif memN qui (n+2000000) then some 4 else none,dn:=fun n=>memN qui (n+6000000) }
def HH (add sub:Nat) (cl:nB) (n:Nat):Bool:=Nat.beq n add||(Nat.beq n sub||LN cl n)
theorem N5:∀ (cl:nB) (n:Nat) (az:List PV),LN cl n=false→yiO cl n az=none
 | [],_,_,_=>rfl
 | (k,_,_)::r,n,az,h=>by simp only [LN,Aw] at h;simp only [yiO,h.1,cond_false];exact N5 r n az h.2
theorem yLp {add sub:Nat} {tab:List (Nat×AFn)} {qui:List Nat} {cl:nB} {gl:List (Nat×PV)} {n:Nat} (h:HH add sub cl n=false) (az:List PV):(tK add sub tab qui cl gl).sum n az=none:=by simp only [HH,Aw] at h;simp only [tK,N1 h.1 h.2.1,N5 cl n az h.2.2]
def N6 (esz bytes:Nat) (p0:List PV) (K:List PV→Prop):Prop:=aB (pJ esz bytes p0) (K p0)
def QL (w:List PV→(List PV→Prop)→Prop) (az:List PV) (K:PV→Prop):Prop:=
 match az with
 | [(.data p0)]=>w p0 (fun r0=>K (.data r0))
 | _=>False
def yDr (esz bytes:Nat) (az:List PV) (K:PV→Prop):Prop:=QL (N6 esz bytes) az K
def HI:nB→Nat→Option (Nat×Nat)
 | [],_=>none
 | (k,e,b)::r,n=>bif Nat.beq k n then some (e,b) else HI r n
theorem N7 {n esz bytes:Nat} {rows:List PV}:∀ (cl:nB),HI cl n=some (esz,bytes)→pJ esz bytes rows=true→yiO cl n [.data rows]=some (.data rows)
 | [],h,_=>by simp [HI] at h
 | (k,e,b)::r,h,hk=>by
  simp only [HI] at h;simp only [yiO]
  cases hb:Nat.beq k n with
  | true=>rw [hb] at h;simp only [cond_true,cC,Prod.mk.injEq] at h;obtain ⟨rfl,rfl⟩:=h;simp only [cond_true,hk]
  | false=>rw [hb] at h;simp only [cond_false] at h ⊢;exact N7 r h hk
theorem yPu {P:Program} {add sub:Nat} {tab:List (Nat×AFn)} {qui:List Nat} {cl:nB} {gl:List (Nat×PV)} (hm:P.follows .mixedOrders=true) (ha:IsExtern P add add64Entry) (hs:IsExtern P sub Hw) (ht:Cf P tab)
  (hd:∀ n∈Cg qui,ySJ P n) (hc:∀ n esz bytes,(n,esz,bytes)∈cl→∃ z,yC6 tab n=some (uX esz bytes z)):EO P (tK add sub tab qui cl gl) where
 sum:=by
  intro n az r h;simp only [tK] at h;split at h
  ·rename_i q hq;cases h;exact I9 ha hs n az _ hq
  ·exact (N3 (yQ2 (qui:=[]) ha hs ht) hm (fun _ _ _=>rfl) (fun _=>rfl) cl (fun n e b hmem=>hc n e b hmem) n az r h).any
 fns:=fun n fn h=>Qp tab ht n fn h
 eff:=fun _ _ _ _ _ _ _ h=>by cases h
 dn:=fun n h=>hd n (J0 h)
 top:=fun _ _=>rfl
 yl:=fun _ _ _ _ _ _ h=>by cases h
end Go.Pf
namespace Go.Pf
abbrev Ls:Type:=List PV
def O (d:Nat) (x:AOp):AO:=⟨some d,x,none⟩
def M (d s:Nat):AO:=⟨some d,.mv (.t s),none⟩
def I (n:Int):Opd:=.c (.int .i64 n)
def oX (d:Nat) (op:BinOp) (a b:Nat):AO:=⟨some d,.bin op (.t a) (.t b),none⟩
def oT (d sz a:Nat):AO:=⟨some d,.load true sz (.t a),none⟩
def oF (d sz a:Nat):AO:=⟨some d,.load false sz (.t a),none⟩
def oQ (l:List AO) (d:List Nat):TC:=.ops l [] [] d
abbrev bM (E:Env) (wp:List PV→(PV→Prop)→Prop) (n:Nat):Prop:=∀ az K,wp az K→∃ r,K r∧yU E n az r
abbrev uY (E:Env) (wp:List PV→HB→(PV→List PV→Prop)→Prop) (n:Nat):Prop:=∀ az b K,wp az b K→∃ q rows,K q rows∧uR (bC E) n az b q rows
abbrev N8 (E:Env) (wp:List PV→(PV→Prop)→Prop) (n:Nat):Prop:=∀ az K,wp az K→∃ r,K r∧rM E n az r
theorem bM.solo {E:Env} {wp:List PV→(PV→Prop)→Prop} {n:Nat} (h:bM E wp n):N8 E wp n:=fun az K k=>by obtain ⟨r,h1,h2⟩:=h az K k;exact ⟨r,h1,h2.solo⟩
theorem rM.unique {E:Env} {n:Nat} {az:List PV} {r r':PV} (h:rM E n az r) (h':rM E n az r'):r=r':=by obtain ⟨m,hm⟩:=h;obtain ⟨m',hm'⟩:=h';have e:=hm (m+m') E (m+m') (by omega) rfl (by omega);rw [hm' (m+m') E (m+m') (by omega) rfl (by omega)] at e;exact (Option.some.inj e).symm
theorem QM {E:Env} {n:Nat} {wp:List PV→(PV→Prop)→Prop} (ok:N8 E wp n) {az:List PV} {x:PV}
  (h:∀ K:PV→Prop,K x→wp az K) {K:PV→Prop} (k:wp az K):K x:=by
 obtain ⟨r,h1,h2⟩:=ok az K k;obtain ⟨q,h3,h4⟩:=ok az (fun y=>y=x) (h _ rfl);subst h3;rw [← h2.unique h4];exact h1
theorem cE {E:Env} {n:Nat} {wp:List PV→(PV→Prop)→Prop} (ok:∀ az K,wp az K→∃ r,K r∧yU E n az r) {az:List PV} {x:PV}
 (h:∀ K:PV→Prop,K x→wp az K) {K:PV→Prop} (k:wp az K):K x:=QM (bM.solo ok) h k
end Go.Pf
namespace Go.Pf
open Go
inductive DS where
 | b
 | i (k:IntKind)
 | s (e:DS)
 | a (l:List DS)
def DS.isA:DS→Bool
 | .a _=>true
 | _=>false
def PV.isAgg:PV→Bool
 | .agg _=>true
 | _=>false
mutual
def HasF:DS→List PV→Prop
 | .b,c=>∃ x,c=[.bool x]
 | .i k,c=>∃ n,c=[.int k n]∧iZ k n
 | .s e,c=>∃ rows:List PV,c=[.data rows]∧rows.length≤maxLen∧∀ x∈rows,x.isAgg=e.isA∧HasF e x.cells
 | .a l,c=>HasL l c
def HasL:List DS→List PV→Prop
 | [],c=>c=[]
 | d::l,c=>∃ c1 c2,c=c1++c2∧HasF d c1∧HasL l c2
end
mutual
def jI (P:Program):DS→TypeId→Bool
 | .b,t=>(match P.underlying t with | some .bool=>true | _=>false)
 | .i k,t=>(match P.underlying t with | some (.int q)=>decide (q=k) | _=>false)
 | .s e,t=>(match P.underlying t with | some (.slice u)=>decide (0<P.cellsOf u)&&jI P e u | _=>false)
 | .a l,t=>(match P.underlying t with | some (.struct fs)=>mP P l (fs.toList.map (·.type)) | some (.array n u)=>mP P l (replicate n u) | _=>false)
def mP (P:Program):List DS→List TypeId→Bool
 | [],[]=>true
 | d::l,t::r=>jI P d t&&mP P l r
 | _,_=>false
end
theorem N9 (P:Program):∀ (l:List DS) (ts:List TypeId),mP P l ts=true→l.length=ts.length
 | [],[],_=>rfl
 | _::l,_::r,h=>by unfold mP at h;simp only [bZ] at h;simp [N9 P l r h.2]
 | [],_::_,h=>by unfold mP at h;cases h
 | _::_,[],h=>by unfold mP at h;cases h
theorem O0 (P:Program):∀ (l:List DS) (ts:List TypeId),mP P l ts=true→∀ (j:Nat) d t,l[j]?=some d→ts[j]?=some t→jI P d t=true
 | [],[],_,_,_,_,h,_=>by simp at h
 | d::l,t::r,h,0,d',t',h1,h2=>by unfold mP at h;simp only [bZ] at h;simp only [GT,cC] at h1 h2;subst h1;subst h2;exact h.1
 | d::l,t::r,h,j+1,d',t',h1,h2=>by unfold mP at h;simp only [bZ] at h;exact O0 P l r h.2 j d' t' (by simpa using h1) (by simpa using h2)
 | [],_::_,h,_,_,_,_,_=>by unfold mP at h;cases h
 | _::_,[],h,_,_,_,_,_=>by unfold mP at h;cases h
section
variable {H:Type} {enc:TypeId×Value→H} {P:Program} {w:World} {I:Nat→Prop}
theorem yLq {l1 l2:List PV} {v1 v2:List Value} (h1:ybo I w l1 v1) (h2:ybo I w l2 v2):ybo I w (l1++l2) (v1++v2):=PP h1 h2
def yRE (enc:TypeId×Value→H) (P:Program) (w:World) (I:Nat→Prop) (n:Nat):Prop:=
 ∀ (d:DS) (t:TypeId) (cs:List Value) (x:DataW H×List MemPlace),t<P.types.size→jI P d t=true→DataW.trod enc P w 0 (fun _=>true) true n t cs=some x→(∀ p∈x.2,I p.block)→∃ pcs,HasF d pcs∧ybo I w pcs cs
theorem O1 {n:Nat} (ih:yRE enc P w I n) {l:List DS} {ts:List TypeId} (hl:mP P l ts=true) (hrow:∀ t∈ts,t<P.types.size) {cs:List Value} {xs:List (DataW H×List MemPlace)} (off:Nat→Nat)
  (hoff:∀ j t,ts[j]?=some t→off (j+1)=off j+P.cellsOf t) (hend:cs.length≤off ts.length) (hx:∀ j t,ts[j]?=some t→DataW.trod enc P w 0 (fun _=>true) true n t ((cs.drop (off j)).take (P.cellsOf t))=xs[j]?)
  (hxl:xs.length=ts.length) (hI:∀ p∈xs.flatMap (·.2),I p.block) :
  ∀ (r j:Nat),j+r=ts.length→∃ pcs,HasL (l.drop j) pcs∧ybo I w pcs (cs.drop (off j)):=by
 have hll:=N9 P l ts hl;intro r;induction r with
 | zero=>
  intro j hj;refine ⟨[],?_,?_⟩
  ·rw [qW (by omega)];simp only [HasL]
  ·rw [qW (by rw [show j=ts.length by omega];exact hend)];simp only [ybo]
 | succ r ihr=>
  intro j hj;obtain ⟨pcs,h1,h2⟩:=ihr (j+1) (by omega);have ht:ts[j]?=some ts[j]:=dL (by omega);have hd:l[j]?=some l[j]:=dL (by omega);have hxj:xs[j]?=some xs[j]:=dL (by omega);have h:=hx j _ ht;rw [hxj] at h;obtain ⟨pc,k1,k2⟩:=ih l[j] ts[j] _ _ (hrow _ (wP _)) (O0 P l ts hl j _ _ hd ht) h (fun p hp=>hI p (List.mem_flatMap.2 ⟨xs[j],wP _,hp⟩));refine ⟨pc++pcs,?_,?_⟩
  ·rw [KI (by omega)];simp only [HasL];exact ⟨pc,pcs,rfl,k1,h1⟩
  ·have e:cs.drop (off j)=(cs.drop (off j)).take (P.cellsOf ts[j])++cs.drop (off (j+1)):=by
    rw [hoff j _ ht,← List.drop_drop,List.take_append_drop]
   rw [e];exact yLq k2 h2
theorem yR8 {d:DS} {pcs:List PV} (h:HasF d pcs):∃ x:PV,x.isAgg=d.isA∧x.cells=pcs∧∀ vs,ybo I w pcs vs→RC I w x vs:=by
 have one:∀ y:PV,y.isAgg=false→pcs=[y]→d.isA=false→∃ x:PV,x.isAgg=d.isA∧x.cells=pcs∧∀ vs,ybo I w pcs vs→RC I w x vs:=by
  intro y hy e hd;refine ⟨y,hy.trans hd.symm,?_,?_⟩
  ·subst e;cases y<;>first | rfl | cases hy
  ·intro vs hv;subst e;simp only [ybo] at hv;obtain ⟨v,vr,rfl,_,h1,rfl⟩:=hv;exact h1
 cases d with
 | b=>simp only [HasF] at h;obtain ⟨x,e⟩:=h;exact one _ rfl e rfl
 | i k=>simp only [HasF] at h;obtain ⟨x,e,_⟩:=h;exact one _ rfl e rfl
 | s e=>simp only [HasF] at h;obtain ⟨x,e,_⟩:=h;exact one _ rfl e rfl
 | a l=>exact ⟨.agg pcs,rfl,rfl,fun vs hv=>by simp only [RC];exact hv⟩
theorem yLr (K:Kids P (·<P.types.size)):∀ n,yRE enc P w I n:=by
 intro n;induction n with
 | zero=>intro d t cs x _ _ h;simp [DataW.trod] at h
 | succ n ih=>
  intro d t cs x hrow hty h hI
  cases d with
  | b=>
   unfold jI at hty;split at hty
   ·rename_i ht;obtain ⟨b,rfl,_⟩:=DataW.trod_bool ht h;refine ⟨[.bool b],by simp only [HasF];exact ⟨b,rfl⟩,?_⟩;simp only [ybo,RC];exact ⟨_,_,rfl,rfl,rfl,rfl⟩
   ·cases hty
  | i k=>
   unfold jI at hty;split at hty
   ·rename_i q ht;simp only [decide_eq_true_eq] at hty;subst hty;obtain ⟨m,rfl,_,hw⟩:=DataW.trod_int ht h;have hk:iZ q m:=by
     unfold iZ;simpa [Lit.wf] using hw
    refine ⟨[.int q m],by simp only [HasF];exact ⟨m,rfl,hk⟩,?_⟩;simp only [ybo,RC];exact ⟨_,_,rfl,rfl,⟨rfl,hk⟩,rfl⟩
   ·cases hty
  | s e=>
   unfold jI at hty;split at hty
   ·rename_i u ht;simp only [bZ,decide_eq_true_eq] at hty;obtain ⟨hpos,hty⟩:=hty;rcases DataW.trod_slice ht h with ⟨rfl,_⟩ | ⟨a,len,cap,elems,rest,m,hm,rfl,rfl,_,hle,hcap,hlen,hel,_⟩
    ·refine ⟨[.data []],?_,?_⟩
     ·simp only [HasF];exact ⟨[],rfl,by simp,by simp⟩
     ·simp only [ybo,RC];exact ⟨_,_,rfl,rfl,⟨none,0,0,rfl,rfl,by omega,by decide,by simp⟩,rfl⟩
    ·have hmn:m=n:=by omega
     subst hmn;have hru:=K.slice hrow ht;have hspot0:len≠0→a.spot=none:=by
      intro h0;have hb:=hel 0 (by omega);rw [dL (by omega)] at hb;obtain ⟨cs',hc,hy⟩:=GS.1 hb;obtain ⟨_,hcl,hcg⟩:=World.cells?_some hc;have h0:=hcg 0 hpos;rw [dL (by omega)] at h0;have e0:(a.add (0*P.cellsOf u)).add 0=a:=by simp [Addr.add]
      rw [e0] at h0;unfold World.cell? at h0;split at h0
      ·split at h0
       ·cases h0
       ·rename_i hs;simpa using hs
      ·cases h0
     have hadd:a.spot=none→∀ k i:Nat,(a.add k).add i=⟨a.block,a.off+k+i,none⟩:=by
      intro hs k i;obtain ⟨ab,ao,az⟩:=a;simp only at hs;subst hs;simp only [Addr.add]
      by_cases h1:k=0<;>by_cases h2:i=0<;>simp [h1,h2,wT]
     have yh0:∀ (r j:Nat),j+r=len→∃ rows:List PV,rows.length=r∧(∀ x∈rows,x.isAgg=e.isA∧HasF e x.cells)∧(r≠0→a.spot=none∧I a.block)∧eU I w rows (P.cellsOf u) a.block (a.off+j*P.cellsOf u):=by
      intro r;induction r with
      | zero=>intro j _;exact ⟨[],rfl,by simp,fun h=>absurd rfl h,by simp only [eU]⟩
      | succ r ihr=>
       intro j hj;obtain ⟨rows,l1,l2,_,l4⟩:=ihr (j+1) (by omega);have hj2:j<elems.length:=by omega
       have hb:=hel j (by omega);rw [dL hj2] at hb;obtain ⟨cs',hc,hy⟩:=GS.1 hb;obtain ⟨_,hcl,hcg⟩:=World.cells?_some hc;obtain ⟨pcs,k1,k2⟩:=ih e u cs' _ hru hty hy (fun p hp=>hI p (by
        simp only [qA8,List.mem_flatMap];exact .inr ⟨elems[j],.inl (wP _),hp⟩))
       obtain ⟨x,x1,x2,x3⟩:=yR8 (I:=I) (w:=w) k1;have hspot:=hspot0 (by omega);have hIa:I a.block:=hI (.cell a.block a.off) (by
        simp only [qA8];left;exact MemPlace.mem_row.2 ⟨0,Nat.mul_pos (by omega) hpos,rfl⟩)
       refine ⟨x::rows,by simp [l1],?_,fun _=>⟨hspot,hIa⟩,?_⟩
       ·intro y hy;rcases qAo.1 hy with rfl | hy
        ·exact ⟨x1,by rw [x2];exact k1⟩
        ·exact l2 y hy
       ·simp only [eU];refine ⟨⟨cs',hcl,x3 _ k2,?_⟩,?_⟩
        ·intro i v hi;have hi2:i<P.cellsOf u:=by rw [← hcl];exact (BK.1 hi).1
         have:=hcg i hi2;rw [hi] at this;rw [← this,hadd hspot]
        ·rw [wT,show j*P.cellsOf u+P.cellsOf u=(j+1)*P.cellsOf u by rw [dJ,jG]];exact l4
     obtain ⟨rows,l1,l2,l3,l4⟩:=yh0 len 0 (by omega);refine ⟨[.data rows],?_,?_⟩
     ·simp only [HasF];exact ⟨rows,rfl,by omega,l2⟩
     ·simp only [ybo,RC];refine ⟨_,_,rfl,rfl,⟨some a,len,cap,rfl,l1.symm,hle,hcap,?_⟩,rfl⟩
      by_cases h0:len=0
      ·left;exact Au (by omega)
      ·right;obtain ⟨hs,hIa⟩:=l3 h0;refine ⟨a.block,a.off,P.cellsOf u,?_,hIa,hpos,by simpa using l4⟩
       cases a;simp only at hs;subst hs;rfl
   ·cases hty
  | a l=>
   unfold jI at hty;split at hty
   ·rename_i fs ht;obtain ⟨xs,m,hm,rfl,hcl,hxl,hxs⟩:=DataW.trod_struct ht h;have hmn:m=n:=by omega
    subst hmn;obtain ⟨k1,k2,k3⟩:=K.struct hrow ht;have:=O1 ih (l:=l) (ts:=fs.toList.map (·.type)) hty (fun t ht=>by obtain ⟨f,hf,rfl⟩:=rB.1 ht;exact k1 f hf) (cs:=cs) (xs:=xs) (fun j=>((fs.toList.take j).map fun f=>P.cellsOf f.type).sum)
     (fun j t hj=>by
      rw [pE,qV] at hj;obtain ⟨f,hf,rfl⟩:=hj;obtain ⟨hlt,hf2⟩:=BK.1 hf;show ((fs.toList.take (j+1)).map _).sum=_;rw [List.take_add_one,hf];simp)
     (by simp only [lY,jS];rw [hcl,k2];exact cJ _)
     (fun j t hj=>by
      rw [pE,qV] at hj;obtain ⟨f,hf,rfl⟩:=hj;have:=hxs j f (by simpa using hf);rw [← this,k3 j f hf])
     (by simp [hxl]) hI (fs.toList.map (·.type)).length 0 (by omega)
    obtain ⟨pcs,p1,p2⟩:=this;exact ⟨pcs,by simp only [HasF];exact p1,by simpa using p2⟩
   ·rename_i q u ht;obtain ⟨xs,m,hm,rfl,hcl,hxl,hxs⟩:=DataW.trod_array ht h;have hmn:m=n:=by omega
    subst hmn;obtain ⟨k1,k2⟩:=K.array hrow ht;have:=O1 ih (l:=l) (ts:=replicate q u) hty (fun t ht=>by rw [(List.mem_replicate.1 ht).2];exact k1) (cs:=cs) (xs:=xs) (fun j=>j*P.cellsOf u)
     (fun j t hj=>by
      have:t=u:=(List.mem_replicate.1 (List.mem_of_getElem? hj)).2;subst this;show (j+1)*_=_;rw [dJ,jG])
     (by rw [xZ,hcl,k2];exact cJ _)
     (fun j t hj=>by
      have e:t=u:=(List.mem_replicate.1 (List.mem_of_getElem? hj)).2;subst e;have hlt:j<q:=by have:=(BK.1 hj).1;simpa using this
      exact hxs j hlt)
     (by simp [hxl]) hI (replicate q u).length 0 (by omega)
    obtain ⟨pcs,p1,p2⟩:=this;exact ⟨pcs,by simp only [HasF];exact p1,by simpa using p2⟩
   ·cases hty
end
end Go.Pf
namespace Go.Pf
open Go Go.ChangeShapes Go.WideShapes Go.ChangeAt Go.RowKit
def yxF:List DS→List PV→Prop
 | [],az=>az=[]
 | d::l,az=>∃ x r,az=x::r∧x.isAgg=d.isA∧HasF d x.cells∧yxF l r
section
variable {H:Type} {enc:TypeId×Value→H} {P:Program}
theorem yPv (K:Kids P (·<P.types.size)) {w:World} {I:Nat→Prop} {base:Nat} {d:DS} {t:TypeId} {v:Value} {x:DataW H} {p:List MemPlace} (hrow:t<P.types.size) (hty:jI P d t=true)
  (hval:Value.okWide P w .any base t v) (h:DataW.Trod enc P w 0 (fun _=>true) true t v x p) (hI:∀ q∈p,I q.block) :
  ∃ y:PV,y.isAgg=d.isA∧HasF d y.cells∧fF I w y v:=by
 obtain ⟨n,hn⟩:=h;obtain ⟨pcs,h1,h2⟩:=yLr (I:=I) K n d t _ _ hrow hty hn hI;have single:∀ y:PV,pcs=[y]→y.isAgg=false→d.isA=false→v.cells.toList=[v]→∃ y:PV,y.isAgg=d.isA∧HasF d y.cells∧fF I w y v:=by
  intro y e hy hd hv;subst e;refine ⟨y,hy.trans hd.symm,?_,?_⟩
  ·have:y.cells=[y]:=by cases y<;>first | rfl | cases hy
   rw [this];exact h1
  ·rw [hv] at h2;simp only [ybo] at h2;obtain ⟨u,vr,e,_,h3,h4⟩:=h2;simp only [kH] at e;obtain ⟨rfl,_⟩:=e
   cases y<;>first | exact h3 | (simp only [RC] at h3;done) | (simp only [fF];exact h3) | cases hy
 cases d with
 | b=>
  unfold jI at hty;split at hty
  ·rename_i ht;obtain ⟨b,rfl⟩:=okWide_bool ht hval;simp only [HasF] at h1;obtain ⟨z,e⟩:=h1;exact single _ e rfl rfl rfl
  ·cases hty
 | i k=>
  unfold jI at hty;split at hty
  ·rename_i q ht;obtain ⟨m,rfl⟩:=okWide_int ht hval;simp only [HasF] at h1;obtain ⟨z,e,_⟩:=h1;exact single _ e rfl rfl rfl
  ·cases hty
 | s e=>
  unfold jI at hty;split at hty
  ·rename_i u ht;obtain ⟨a,len,cap,rfl⟩:=okWide_slice ht hval;simp only [HasF] at h1;obtain ⟨z,e,_⟩:=h1;exact single _ e rfl rfl rfl
  ·cases hty
 | a l=>
  have key:∀ cs,v=.agg cs→∃ y:PV,y.isAgg=(DS.a l).isA∧HasF (DS.a l) y.cells∧fF I w y v:=by rintro cs rfl;refine ⟨.agg pcs,rfl,h1,?_⟩;simp only [fF];exact ⟨cs.toList,rfl,h2⟩
  unfold jI at hty;split at hty
  ·rename_i fs ht;obtain ⟨cs,e,_⟩:=okWide_struct ht hval;exact key cs e
  ·rename_i q u ht;have hval2:=hval;unfold Value.okWide at hval2;rw [ht] at hval2;obtain ⟨cs,e,_⟩:=hval2;exact key cs e
  ·cases hty
theorem O2 (K:Kids P (·<P.types.size)) {w:World} {I:Nat→Prop} {base:Nat}:∀ (ts:List TypeId) (dss:List DS) (vs:List Value) (xs:List (DataW H)) (p:List MemPlace),mP P dss ts=true→(∀ t∈ts,t<P.types.size) →
  (∀ (j:Nat) t v,ts[j]?=some t→vs[j]?=some v→Value.okWide P w .any base t v)→DataW.TrodAll enc P w 0 (fun _=>true) true ts vs xs p→(∀ q∈p,I q.block)→∃ az,yxF dss az∧gG I w az vs
 | [],[],[],[],p,_,_,_,_,_=>⟨[],by simp only [yxF],by simp only [gG]⟩
 | t::ts,d::dss,v::vs,x::xs,p,hty,hrow,hval,h,hI=>by
  unfold mP at hty;simp only [bZ] at hty;obtain ⟨p1,q,h1,h2,rfl⟩:=h;obtain ⟨y,y1,y2,y3⟩:=yPv K (hrow t (dS ..)) hty.1 (hval 0 t v rfl rfl) h1 (fun z hz=>hI z (List.mem_append_left _ hz));obtain ⟨az,a1,a2⟩:=O2 K ts dss vs xs q hty.2 (fun u hu=>hrow u (fC _ hu)) (fun j u z hj hz=>hval (j+1) u z hj hz) h2 (fun z hz=>hI z (List.mem_append_right _ hz));refine ⟨y::az,?_,?_⟩
  ·simp only [yxF];exact ⟨y,az,rfl,y1,y2,a1⟩
  ·simp only [gG];exact ⟨v,vs,rfl,y3,a2⟩
 | [],_::_,_,_,_,hty,_,_,_,_=>by unfold mP at hty;cases hty
 | _::_,[],_,_,_,hty,_,_,_,_=>by unfold mP at hty;cases hty
 | [],[],_::_,_,_,_,_,_,h,_=>h.elim
 | [],[],[],_::_,_,_,_,_,h,_=>h.elim
 | _::_,_::_,[],_,_,_,_,_,h,_=>h.elim
 | _::_,_::_,_::_,[],_,_,_,_,h,_=>h.elim
theorem yN3 (K:Kids P (·<P.types.size)) {n:FuncId} {fn:Func} {G:Nat→Option PV} {dss:List DS} {ts:List TypeId} (hty:mP P dss ts=true) (hrow:∀ t∈ts,t<P.types.size)
  (hf : P.funcs[n]? = some fn) (hn : (fn.name == "runtime.NumGoroutine") = false) (hb : fn.body.isSome = true) (hsum : ∀ az, yxF dss az → qN P G n az (.bool true))
  {W:World} {base:Nat} {args:Array Value} {ds:List (DataW H)} {p:List MemPlace} {I:Nat→Prop} (hval:∀ (j:Nat) t v,ts[j]?=some t→args.toList[j]?=some v→Value.okWide P W .any base t v)
  (hA:DataW.TrodAll enc P W 0 (fun _=>true) true ts args.toList ds p) (hI:∀ q∈p,I q.block) (himm:∀ b,I b→b<W.heap.size) (hG:PW G I W) :
  Calls P n args W fun e W'=>e=.returned (.bool true)∧Below W.heap.size W W':=by
 obtain ⟨az,a1,a2⟩:=O2 (I:=I) K ts dss args.toList ds p hty hrow hval hA hI;have h:=hsum az a1 I W args.toList himm hG a2;have e:(callFunc n (args.toList).toArray).run P W=.ok (.enter n args) W:=by
  have h1 : fn.name ≠ "runtime.NumGoroutine" := by simpa using hn
  obtain ⟨c,hc⟩:=Ec.1 hb;simp [callFunc,hf,h1,hc]
 unfold nA at h;rw [e] at h;refine Calls.mono h fun e w' he=>?_
 cases e with
 | returned v =>obtain ⟨h1,h2⟩:=he;simp only [VP,fF,RC,kH,and_true] at h2;exact ⟨by rw [h2],h1.toBelow⟩
 | panicked ch=>exact he.elim
 | outgrown=>exact he.elim
theorem yLs (K:Kids P (·<P.types.size)) (hz:∀ t e,t<P.types.size→P.underlying t=some (.slice e)→0<P.cellsOf e) {W W':World} (hb:Below W.heap.size W W') {sp:Nat→Bool} :
  ∀ {ts:List TypeId} {vs:List Value} {ds:List (DataW H)} {ps:List MemPlace},(∀ t∈ts,t<P.types.size)→DataW.TrodAll enc P W 0 (fun _=>true) true ts vs ds ps→(∀ p∈ps,p.block<W.heap.size)→(∀ p∈ps,sp p.block=true)→DataW.TrodAll enc P W' 0 sp true ts vs ds ps:=by
 intro ts vs ds ps hT h hlt hs;have carry:∀ {ts:List TypeId} {vs:List Value} {ds:List (DataW H)} {ps:List MemPlace},DataW.TrodAll enc P W 0 (fun _=>true) true ts vs ds ps→(∀ p∈ps,p.block<W.heap.size)→DataW.TrodAll enc P W' 0 (fun _=>true) true ts vs ds ps:=by
  intro ts;induction ts with
  | nil=>
   intro vs ds ps h _
   cases vs with
   | nil=>cases ds with
    | nil=>exact h
    | cons _ _=>exact h.elim
   | cons _ _=>exact h.elim
  | cons t ts ih=>
   intro vs ds ps h hlt
   cases vs with
   | nil=>exact h.elim
   | cons v vs=>cases ds with
    | nil=>exact h.elim
    | cons d ds =>obtain ⟨p,q,⟨n,h1⟩,h2,e⟩:=h;subst e;exact ⟨p,q,⟨n,DataW.trod_carry n _ _ _ h1 (fun x hx=>hb.same (hlt x (List.mem_append_left _ hx)))⟩,ih h2 (fun x hx=>hlt x (List.mem_append_right _ hx)),rfl⟩
 exact DataW.TrodAll.respare K hz hT (carry h hlt) hs
theorem yDt {f:Func} {s:ChangeSpec} {ylW fresh handsOn again:Bool} {W W':World} {args:Array Value} {v:Value} {ds gs:List (DataW H)} {before pa pv:List MemPlace}
  (hW:DataW.Whole enc P f.params.toList s.vars ylW W args.toList ds gs before)
  (hres:∀ (b:Nat) (sp:Nat→Bool) (hd:Bool),DataW.TrodAll enc P W' b sp hd f.resultTypes.toList (v.resultList f.resultTypes.size) (s.fn H (ds++gs)).results [])
  (hargs:∀ sp:Nat→Bool,(∀ p∈before,sp p.block=true)→DataW.TrodAll enc P W' 0 sp true f.params.toList args.toList (s.fn H (ds++gs)).args pa)
  (hvars:∀ sp:Nat→Bool,(∀ p∈before,sp p.block=true)→DataW.TrodVars enc P W' sp s.vars (s.fn H (ds++gs)).vars pv)
  (hps:before=pa++pv) (hb:Below W.heap.size W W')
  (hok:∀ (j:Nat) (t:TypeId) (r:Value),f.resultTypes[j]?=some t→(v.resultList f.resultTypes.size)[j]?=some r→Value.okWide P W' .any 0 t r) :
  s.post enc P f ylW fresh handsOn again W args v W':=by
 have hlt:∀ p∈before,p.block<W.heap.size:=fun p hp=>hW.lt p hp
 have hold:∀ p∈before,(fun b=>decide (b<W.heap.size)) p.block=true:=fun p hp=>by simpa using hlt p hp
 refine ⟨ds,gs,before,[],pa,pv,hW,hres _ _ _,hargs _ hold,hvars _ hold,World.keptBut_mono (fun p hp=>⟨hp,?_⟩) (hb.frame (·∈before)),fun _=>?_⟩
 ·rw [hps,qA8] at hp;exact Or.inr hp
 ·obtain ⟨_,_,_,_,_,hz,hn⟩:=hW;refine ⟨hok,_,_,([]++pa)++pv,⟨[]++pa,pv,trodAll_append (hargs _ (fun _ _=>rfl)) (hres _ _ _),hvars _ (fun _ _=>rfl),rfl,?_,?_⟩,?_⟩
  ·intro b off hp;have hin:MemPlace.cell b off∈before:=by rw [hps];simpa using hp
   rw [hb.frozen (hlt _ hin)];exact hz b off hin
  ·intro ha;have:=hn ha;rw [hps] at this;simpa using this
  ·intro p hp _;rw [hps];simpa using hp
theorem yPw (K:Kids P (·<P.types.size)) (hz:∀ t e,t<P.types.size→P.underlying t=some (.slice e)→0<P.cellsOf e) {n:FuncId} {fn:Func} {G:Nat→Option PV} {dss:List DS} {s:ChangeSpec} {bt:TypeId}
  (hty : mP P dss fn.params.toList = true) (hrow : ∀ t ∈ fn.params.toList, t < P.types.size) (hf : P.funcs[n]? = some fn) (hn : (fn.name == "runtime.NumGoroutine") = false) (hb : fn.body.isSome = true)
  (hvars:s.vars=[]) (hfn:∀ ds:List (DataW H),ds.length=fn.params.toList.length→s.fn H (ds++[])={ results:=[.lit (.bool true)],args:=ds })
  (hrt:fn.resultTypes.toList=[bt]) (hbt:P.underlying bt=some .bool) (hsum:∀ az,yxF dss az→qN P G n az (.bool true)) {ylW fresh handsOn again:Bool}
  {W:World} {base:Nat} {args:Array Value} {ds gs:List (DataW H)} {before:List MemPlace} (hval:∀ (j:Nat) t v,fn.params[j]?=some t→args[j]?=some v→Value.okWide P W .any base t v)
  (hW:DataW.Whole enc P fn.params.toList s.vars ylW W args.toList ds gs before) (J:Nat→Prop) (hJ:∀ b,J b→b<W.heap.size) (hG:PW G (fun b=>(∃ p∈before,p.block=b)∨J b) W) :
  Calls P n args W fun e W'=>∃ v,e=.returned v∧s.post enc P fn ylW fresh handsOn again W args v W':=by
 have hW':=hW;obtain ⟨p,q,hA,hV,hpq,hfz,hnd⟩:=hW;have hlt:∀ x∈before,x.block<W.heap.size:=fun x hx=>hW'.lt x hx
 rw [hvars] at hV;obtain ⟨hgs,hq⟩:=trodVars_none hV;subst hgs;subst hq;rw [AA] at hpq;subst hpq;have hlen:ds.length=fn.params.toList.length:=by
  have len:∀ {ts:List TypeId} {vs:List Value} {xs:List (DataW H)} {ps:List MemPlace},DataW.TrodAll enc P W 0 (fun _=>true) true ts vs xs ps→xs.length=ts.length:=by
   intro ts;induction ts with
   | nil=>
    intro vs xs ps h
    cases vs with
    | nil=>cases xs with
     | nil=>rfl
     | cons _ _=>exact h.elim
    | cons _ _=>exact h.elim
   | cons t ts ih=>
    intro vs xs ps h
    cases vs with
    | nil=>exact h.elim
    | cons v vs=>cases xs with
     | nil=>exact h.elim
     | cons x xs =>obtain ⟨_,_,_,h2,_⟩:=h;simp [ih h2]
  exact len hA
 have hc:=yN3 (I:=fun b=>(∃ x∈before,x.block=b)∨J b) K hty hrow hf hn hb hsum (W:=W) (base:=base) (args:=args) (fun j t v h1 h2=>hval j t v (by simpa using h1) (by simpa using h2)) hA (fun x hx=>.inl ⟨x,hx,rfl⟩)
  (fun b hb=>by
   rcases hb with ⟨x,hx,rfl⟩|hb
   ·exact hlt x hx
   ·exact hJ b hb) hG
 refine hc.mono fun e W' ⟨he,hg⟩=>?_
 subst he;have hrs:fn.resultTypes=#[bt]:=by rw [← sQ];exact hrt
 refine ⟨_,rfl,yDt (pa:=before) (pv:=[]) hW' ?_ ?_ ?_ (by simp) hg ?_⟩
 ·intro b sp hd;rw [hfn ds hlen,hrs];exact trodAll_mk1 (shut_bool hbt true)
 ·intro sp hs;rw [hfn ds hlen];exact yLs K hz hg hrow hA hlt hs
 ·intro sp hs;rw [hfn ds hlen,hvars];rfl
 ·intro j t r h1 h2;rw [hrs] at h1 h2;have hj:j=0:=by
   rcases j with _|j
   ·rfl
   ·simp at h1
  subst hj;simp at h1;subst h1;have:r=.bool true:=by
   have h3:((Value.bool true).resultList (#[bt]:Array TypeId).size)[0]?=some (.bool true):=rfl;rw [h3] at h2;exact (Option.some.inj h2).symm
  subst this;exact okWide_bool_mk hbt true
end
end Go.Pf
namespace Go.Pf
open Go
def ES:PV→Value
 | .int k n=>.int k n
 | _=>.bool false
def fZ:List IntKind→List PV→Bool
 | [],[]=>true
 | k::ks,.int q n::r=>decide (q=k)&&(decide (k.min≤n)&&(decide (n≤k.max)&&fZ ks r))
 | _,_=>false
def ET (ks:List IntKind):PV→Bool
 | .agg cs=>fZ ks cs
 | _=>false
def uZ (x:PV):List Value:=x.cells.map ES
structure Srt where
 n:Nat
 g:Nat
 ks:List IntKind
 good:PV→Bool
 z:PV
def Srt.gd (s:Srt) (x:PV):Bool:=ET s.ks x&&s.good x
abbrev Srt.El (s:Srt):Type:={x:PV // s.gd x=true}
def Srt.enc (s:Srt) (x:s.El):List Value:=uZ x.1
def Srt.rows? (s:Srt):List PV→Option (List s.El)
 | []=>some []
 | x::r=>if h:s.gd x=true then (match s.rows? r with | some l=>some (⟨x,h⟩::l) | none=>none) else none
theorem Srt.rows?_val {s:Srt}:∀ {l:List PV} {d:List s.El},s.rows? l=some d→d.map (·.1)=l
 | [],d,h=>by simp only [Srt.rows?] at h;cases h;rfl
 | x::r,d,h=>by
  simp only [Srt.rows?] at h;split at h
  ·split at h
   ·rename_i l hl
    cases h
    rw [qJ,Srt.rows?_val hl]
   ·cases h
  ·cases h
def Srt.sorted (s:Srt) (srt:Array s.El→Array s.El) (l:List PV):List PV:=
 match s.rows? l with
 | some d=>(srt d.toArray).toList.map (·.1)
 | none=>l
def Srt.cond (s:Srt) (rows:List PV) (lo len ext esz:Nat) (fz:Bool):Bool:=
 decide (rows.length=ext)&&(decide (lo+len≤ext)&&(decide (0<len)&&(decide (esz=s.ks.length)&&(!fz&&(decide (len<4611686018427387904)&&(s.rows? ((rows.drop lo).take len)).isSome)))))
def HJ (s:Srt) (srt:Array s.El→Array s.El) (n:Nat) (xs:List PV) (H:Hp):Option (Bool×Bool×(PV×Hp)×(PV×Hp)):=
 bif Nat.beq n s.n then
  (match xs with
   | [.own id lo len ext _,.fn (.func g) [] []]=>
    bif Nat.beq g s.g then
     (match H[id]? with
      | some b=>some (s.cond b.rows lo len ext b.esz b.fz,true,(.tup [],H.set id { b with rows:=b.rows.take lo++(s.sorted srt ((b.rows.drop lo).take len)++b.rows.drop (lo+len)) }),(.nils,[]))
      | none=>none)
    else none
   | [.nils,.fn (.func g) [] []]=>bif Nat.beq g s.g then some (true,true,(.tup [],H),(.nils,[])) else none
   | [.emp,.fn (.func g) [] []]=>bif Nat.beq g s.g then some (true,true,(.tup [],H),(.nils,[])) else none
   | _=>none)
 else none
theorem yPx {s:Srt} {srt:Array s.El→Array s.El} {n:Nat} {xs:List PV} {H:Hp} {x:Bool×Bool×(PV×Hp)×(PV×Hp)} (h:HJ s srt n xs H=some x):n=s.n:=by
 unfold HJ at h
 cases hb:Nat.beq n s.n with
 | true=>exact fL hb
 | false=>rw [hb] at h;cases h
structure Srts where
 s:Srt
 cf:s.El→s.El→Int
def Srts.srt (s:Srts) [Inhabited s.s.El] (d:Array s.s.El):Array s.s.El:=Go.Sort.pdq (fun x y=>decide (s.cf x y<0)) d 0 d.size (Go.Lib.bitLen d.size) true true
def QN (k esz bytes n:Nat) (xs:List PV) (H:Hp):Option (Bool×Bool×(PV×Hp)×(PV×Hp)):=
 bif Nat.beq n k then
  (match xs with
   | [.data rows]=>some (pJ esz bytes rows,isEmpty rows,(.emp,H),(.own H.length 0 (length rows) (length rows) none,H++[⟨false,true,esz,rows⟩]))
   | _=>none)
 else none
theorem yN4 {E:Env} {n esz bytes:Nat} {z:PV} (hf:E.fns n=some (uX esz bytes z)) (he:∀ az H,E.eff n az H=none) (b:Bool) (H:Hp):ycl E 12 n [.mt b] H=some (bif b then .nils else .emp,H):=by
 cases b<;>simp [ycl,Env.effx,qL,he,exec,hf,uX,ynL,mY,yjS,yen,yaI,evV,ev,sZ,fget,dF,fdels,fP,kK,yeq,outV,Option.map,yjT,yAx,rD,appV,yh0,iY,sU]
theorem yJz {E:Env} {n esz bytes:Nat} {z:PV} (hf:E.fns n=some (uX esz bytes z)) (he:∀ az H,E.eff n az H=none) {x:PV} {r:List PV} (h:pJ esz bytes (x::r)=true) (H:Hp) :
  ycl E 12 n [.data (x::r)] H=some (.own H.length 0 (x::r).length (x::r).length none,H++[⟨false,true,esz,x::r⟩]):=by
 simp only [pJ,bZ,decide_eq_true_eq,eR] at h;obtain ⟨h1,h2⟩:=h;simp [ycl,Env.effx,qL,he,exec,hf,uX,ynL,mY,yjS,yen,yaI,evV,ev,sZ,fget,dF,fdels,fP,kK,yeq,outV,Option.map,yjT,yAx,rD,appV,yh0,h1,sU,ydm,h2]
theorem yN5 {P:Program} {E:Env} {k esz bytes:Nat} {z:PV} (hf:E.fns k=some (uX esz bytes z)) (he:∀ az H,E.eff k az H=none) (hcall:ybJ P E (ycl E 12)) :
  ybJ P E (fun n xs H=>qL (QN k esz bytes n xs H)):=by
 intro f args H r H' h nt g F tmps w vs hr hL hv;dsimp only at h;unfold qL at h;split at h
 case h_2=>cases h
 rename_i c t x y hc;unfold QN at hc
 cases hb:Nat.beq f k with
 | false=>rw [hb] at hc;cases hc
 | true=>
  rw [hb,cond_true] at hc;obtain rfl:=fL hb;split at hc
  case h_2=>cases hc
  rename_i rows;simp only [cC,Prod.mk.injEq] at hc;obtain ⟨hk,rfl,rfl,rfl⟩:=hc
  cases rows with
  | cons q l=>
   cases h
   exact hcall _ _ _ _ _ (yJz hf he hk H) nt g F tmps w vs hr hL hv
  | nil=>
   cases h
   simp only [bW,VR,RC] at hv;obtain ⟨v,_,rfl,⟨a,len,cap,hs,hl,h3,h4,_⟩,rfl⟩:=hv;simp only [kH,and_true] at hs;subst hs;simp only [sT] at hl;subst hl;have hv2:bW g H w [.mt a.isNone] [.slice a 0 cap]:=by
    simp only [bW,VR];exact ⟨_,_,rfl,⟨a,cap,rfl,h4,rfl⟩,rfl⟩
   refine (hcall _ _ _ _ _ (yN4 hf he a.isNone H) nt g F tmps w _ hr hL hv2).mono fun v w' ⟨g',h5,h6,h7⟩=>⟨g',h5,h6,?_⟩
   cases hn:a.isNone with
   | true =>rw [hn] at h7;simp only [cond_true,VR] at h7;simp only [VR];exact ⟨none,h7⟩
   | false =>rw [hn] at h7;exact h7
abbrev gX:Type:=Nat→List PV→Hp→Option (Bool×Bool×(PV×Hp)×(PV×Hp))
def yW:List (Nat×gX)→gX
 | [],_,_,_=>none
 | (k,e)::r,n,xs,H=>bif Nat.beq n k then (match e n xs H with | some x=>some x | none=>yW r n xs H) else yW r n xs H
theorem O3:∀ {l:List (Nat×gX)} {n:Nat} {xs:List PV} {H:Hp} {x:Bool×Bool×(PV×Hp)×(PV×Hp)},yW l n xs H=some x→∃ e∈l,n=e.1
 | [],_,_,_,_,h=>by cases h
 | (k,e)::r,n,xs,H,x,h=>by
  simp only [yW] at h
  cases hb:Nat.beq n k with
  | true=>exact ⟨(k,e),dS,fL hb⟩
  | false =>rw [hb,cond_false] at h;obtain ⟨e2,h1,h2⟩:=O3 h;exact ⟨e2,fC _ h1,h2⟩
theorem QO {P:Program} {E:Env}:∀ {l:List (Nat×gX)},(∀ e∈l,ybJ P E (fun n xs H=>qL (e.2 n xs H)))→ybJ P E (fun n xs H=>qL (yW l n xs H))
 | [],_=>fun _ _ _ _ _ h=>by cases h
 | (k,e)::r,h=>by
  intro f args H q H' hc;dsimp only [yW] at hc
  cases hb:Nat.beq f k with
  | false =>rw [hb,cond_false] at hc;exact QO (fun e2 h2=>h e2 (fC _ h2)) f args H q H' hc
  | true=>
   rw [hb,cond_true] at hc
   cases he:e f args H with
   | some x =>rw [he] at hc;refine h (k,e) dS f args H q H' ?_;dsimp only;rw [he];exact hc
   | none =>rw [he] at hc;exact QO (fun e2 h2=>h e2 (fC _ h2)) f args H q H' hc
def tL (add sub:Nat) (tab:List (Nat×AFn)) (qui:List Nat) (cl:nB) (gl:List (Nat×PV)) (ef:List (Nat×gX)):Env:={ tK add sub tab qui cl gl with eff:=yW ef }
theorem rO {add sub:Nat} {tab:List (Nat×AFn)} {qui:List Nat} {cl:nB} {gl:List (Nat×PV)} {ef:List (Nat×gX)} {n:Nat} (h:HH add sub cl n=false) (xs:List PV):(tL add sub tab qui cl gl ef).sum n xs=none:=yLp (tab:=tab) (qui:=qui) (gl:=gl) h xs
theorem yN6 {add sub:Nat} {tab:List (Nat×AFn)} {qui:List Nat} {cl:nB} {gl:List (Nat×PV)} {ef:List (Nat×gX)} (h:(ef.all fun e=>!memN qui e.1&&(!HH add sub cl e.1&&!memN qui (e.1+3000000)))=true):HG (tL add sub tab qui cl gl ef):=by intro n xs H x hx;obtain ⟨e,h1,rfl⟩:=O3 hx;have h2:=BO.1 h e h1;simp only [bZ,lX] at h2;exact ⟨h2.1,rfl,fun xs=>rO (tab:=tab) (qui:=qui) (gl:=gl) (ef:=ef) h2.2.1 xs,h2.2.2⟩
theorem O4 {P:Program} {add sub:Nat} {tab:List (Nat×AFn)} {qui:List Nat} {cl:nB} {gl:List (Nat×PV)} {ef:List (Nat×gX)} (h:EO P (tK add sub tab qui cl gl))
  (hs:∀ e∈ef,∀ y,ybJ P ((tK add sub tab qui cl gl).ats y) (fun n xs H=>qL (e.2 n xs H))):EO P (tL add sub tab qui cl gl ef) where
 sum:=h.sum
 fns:=h.fns
 eff:=EO.eff' (E:=tK add sub tab qui cl gl) (E':=tL add sub tab qui cl gl ef) rfl rfl rfl fun y _=>QO fun e he=>hs e he y
 dn:=h.dn
 top:=h.top
 yl:=h.yl' (E':=tL add sub tab qui cl gl ef) rfl rfl rfl rfl
end Go.Pf
namespace Go.Pf
abbrev lt {α:Type} (x:α) (f:α→Prop):Prop:=f x
abbrev jn {α:Type} (f:α→Prop) (k:α):Prop:=f k
def LO (n d:Int):Bool:=decide (1≤d)&&(decide (d≤1000000000000000000)&&(decide (-1000000000000000000≤n)&&(decide (n≤1000000000000000000)&&decide (Nat.gcd n.natAbs d.natAbs=1))))
def nP (a b c d:Int):Int:=if a*d<c*b then -1 else if c*b<a*d then 1 else 0
def Cp:PV→Bool
 | .agg [.int _ a,.int _ b,_,_]=>LO a b
 | _=>false
def yR9:PV→Bool
 | .agg [.int _ a,.int _ b]=>LO a b
 | _=>false
def tM:PV→PV→Int
 | .agg [.int _ a,.int _ b,_,_],.agg [.int _ c,.int _ d,_,_]=>nP a b c d
 | _,_=>0
def ySL:PV→PV→Int
 | .agg [.int _ a,.int _ b],.agg [.int _ c,.int _ d]=>nP a b c d
 | _,_=>0
def qO (n g:Nat):Srts:=⟨⟨n,g,[.i64,.i64,.i64,.i64],Cp,.agg [.int .i64 0,.int .i64 1,.int .i64 0,.int .i64 1]⟩,fun x y=>tM x.1 y.1⟩
def ySM (n g:Nat):Srts:=⟨⟨n,g,[.i64,.i64],yR9,.agg [.int .i64 0,.int .i64 1]⟩,fun x y=>ySL x.1 y.1⟩
instance (n g:Nat):Inhabited (qO n g).s.El:=⟨⟨.agg [.int .i64 0,.int .i64 1,.int .i64 0,.int .i64 1],rfl⟩⟩
instance (n g:Nat):Inhabited (ySM n g).s.El:=⟨⟨.agg [.int .i64 0,.int .i64 1],rfl⟩⟩
theorem O5 {n:Nat} {xs:List PV} {H:Hp}:∀ {l:List (Nat×gX)},memN (l.map (·.1)) n=false→yW l n xs H=none
 | [],_=>rfl
 | (k,e)::r,h=>by
  simp only [qJ,memN] at h;simp only [yW]
  cases hb:Nat.beq k n with
  | true=>rw [hb] at h;cases h
  | false=>
   rw [hb,cond_false] at h;have hb2:Nat.beq n k=false:=by
    cases hc:Nat.beq n k with
    | false=>rfl
    | true=>
     have:=fL hc;subst this;rw [Nat.beq_refl] at hb
     cases hb
   rw [hb2,cond_false];exact O5 h
structure EffG (E:List (Nat×gX)→Env) (nums:List Nat) (e:List (Nat×gX)):Prop where
 ok:HG (E e)
 num:∀ n,memN nums n=false→∀ xs H,(E e).eff n xs H=none
theorem yN7 {add sub:Nat} {tab:List (Nat×AFn)} {qui:List Nat} {cl:nB} {gl:List (Nat×PV)} {ef:List (Nat×gX)} {n esz bytes:Nat} (h1:Nat.beq n add=false) (h2:Nat.beq n sub=false) (hc:HI cl n=some (esz,bytes)) :
  ∀ az K,yDr esz bytes az K→∃ r,K r∧yU (tL add sub tab qui cl gl ef) n az r:=by
 intro az K h;unfold yDr QL at h;split at h
 ·rename_i rows;obtain ⟨hk,h⟩:=bT.1 h;refine ⟨_,h,0,fun k e m _ hl _=>?_⟩;have hl:=(yV hl).2.1;simp only [yeZ,hl,tL,tK,N1 h1 h2,N7 cl hc hk]
 ·exact h.elim
theorem yN8 {add sub:Nat} {tab:List (Nat×AFn)} {qui:List Nat} {cl:nB} {gl:List (Nat×PV)} {ef:List (Nat×gX)}:∀ az K,yvE az K→∃ r,K r∧yU (tL add sub tab qui cl gl ef) add az r:=by
 intro az K h;unfold yvE QJ at h;split at h
 ·rename_i a b c;obtain ⟨h1,h⟩:=bT.1 h;have h1:c.toNat≤1:=by simpa using h1
  refine ⟨_,h,0,fun k e m _ hl _=>?_⟩;have hl:=(yV hl).2.1;have e0:sumC add sub add [.int .u64 a,.int .u64 b,.int .u64 c]=some (.tup [u6 ((a.toNat+b.toNat+c.toNat)%18446744073709551616),u6 ((a.toNat+b.toNat+c.toNat)/18446744073709551616)]):=by
   simp only [sumC,Nat.beq_refl,jU,Ee h1,cond_true]
  simp only [yeZ,hl,tL,tK,e0,u6]
 ·exact h.elim
theorem yN9 {add sub:Nat} (hne:Nat.beq sub add=false) {tab:List (Nat×AFn)} {qui:List Nat} {cl:nB} {gl:List (Nat×PV)} {ef:List (Nat×gX)}:∀ az K,yvG az K→∃ r,K r∧yU (tL add sub tab qui cl gl ef) sub az r:=by
 intro az K h;unfold yvG QK at h;split at h
 ·rename_i a b c;obtain ⟨h1,h⟩:=bT.1 h;have h1:c.toNat≤1:=by simpa using h1
  refine ⟨_,h,0,fun k e m _ hl _=>?_⟩;have hl:=(yV hl).2.1;have e0:sumC add sub sub [.int .u64 a,.int .u64 b,.int .u64 c]=some (.tup [u6 ((a.toNat+18446744073709551616-b.toNat-c.toNat)%18446744073709551616),u6 (bif Nat.ble (b.toNat+c.toNat) a.toNat then 0 else 1)]):=by
   simp only [sumC,hne,Nat.beq_refl,jU,qI,Ee h1,cond_true,cond_false]
  simp only [yeZ,hl,tL,tK,e0,u6]
 ·exact h.elim
end Go.Pf
namespace Go.Pf
open Go Go.Sort
theorem Srts.sorted_is (S:Srts) [Inhabited S.s.El] (h:SWO (fun x y=>decide (S.cf x y<0))) {rows:List PV} {d:List S.s.El} (hd:S.s.rows? rows=some d) :
  ∃ d':List S.s.El,d'.Perm d∧d'.Pairwise (fun x y=>¬S.cf y x<0)∧Srt.sorted S.s S.srt rows=d'.map (·.1):=by
 have e:Srt.sorted S.s S.srt rows=(S.srt d.toArray).toList.map (·.1):=by unfold Srt.sorted;rw [hd]
 obtain ⟨⟨h1,_,h3⟩,h4⟩:=pdq_sorts _ h d.toArray 0 d.toArray.size (Go.Lib.bitLen d.toArray.size) true true (jV _) (cJ _) (Or.inl rfl);refine ⟨(S.srt d.toArray).toList,?_,?_,e⟩
 ·have h5:(S.srt d.toArray).size=d.toArray.size:=h1;have e1:(S.srt d.toArray).extract 0 d.toArray.size=S.srt d.toArray:=by rw [← h5];exact Array.extract_size
  have e2:d.toArray.extract 0 d.toArray.size=d.toArray:=Array.extract_size;have h6:((S.srt d.toArray).extract 0 d.toArray.size).toList.Perm (d.toArray.extract 0 d.toArray.size).toList:=h3;rw [e1,e2] at h6;simpa using h6
 ·have h5:(S.srt d.toArray).size=d.toArray.size:=h1;rw [List.pairwise_iff_getElem];intro i j hi hj hij hlt;rw [Ax] at hi hj;have h6:SortedIn (fun x y=>decide (S.cf x y<0)) 0 d.toArray.size (S.srt d.toArray):=h4;have:=h6 i j (jV _) hij (by rw [← h5];exact hj);rw [getElem!_pos (S.srt d.toArray) i hi,getElem!_pos (S.srt d.toArray) j hj] at this;simp only [Array.getElem_toList] at hlt;simp [hlt] at this
end Go.Pf
namespace Go.Pf
abbrev Es:Type:=List (Nat×gX)
def LQ:Option Bool→Prop | none=>True | some b=>b=true
def HK:Option Bool→Prop→Prop | none,x=>x | some b,x=>aB b x
theorem LR {g:Option Bool} {x:Prop}:HK g x↔LQ g∧x:=by cases g<;>simp [HK,LQ,bT]
def blen (H:Hp) (id:Nat):Nat:=match H[id]? with | some b=>b.rows.length | none=>0
structure Pat (α:Type) where
 T:Type
 A:Type→Type
 app:{R:Type}→A R→T→R
 of:(Nat→Nat)→T→α
 get:(Nat→Nat)→α→Option Bool→Option (T×Option Bool)
 inv:∀ {H x g t g'},get H x g=some (t,g')→LQ g'→LQ g∧x=of H t
section
variable {α β:Type}
def HL:Pat α:=⟨α,fun R=>α→R,fun g t=>g t,fun _ t=>t,fun _ x g=>some (x,g),fun h k=>by cases h;exact ⟨k,rfl⟩⟩
def rP (c:α) (f:α→Bool) (h:∀ x,f x=true→x=c):Pat α:=
 ⟨Unit,fun R=>R,fun g _=>g,fun _ _=>c,fun _ x g=>bif f x then some ((),g) else none,fun {H x g t g'} e k=>by
  cases hf:f x with
  | true=>rw [hf] at e;cases e;exact ⟨k,h _ hf⟩
  | false=>rw [hf] at e;cases e⟩
def iQ (m:β→α) (s:α→Option β) (h:∀ x b,s x=some b→x=m b) (p:Pat β):Pat α:=
 ⟨p.T,p.A,p.app,fun H t=>m (p.of H t),fun H x g=>match s x with | none=>none | some b=>p.get H b g,fun {H x g t g'} e k=>by
  cases hs:s x with
  | none=>rw [hs] at e;cases e
  | some b=>
   rw [hs] at e;obtain ⟨h1,h2⟩:=p.inv e k;exact ⟨h1,by rw [h _ _ hs,h2]⟩⟩
def tN (p:Pat α) (q:Pat β):Pat (α×β):=
 ⟨p.T×q.T,fun R=>p.A (q.A R),fun g t=>q.app (p.app g t.1) t.2,fun H t=>(p.of H t.1,q.of H t.2),
  fun H x g=>match p.get H x.1 g with | none=>none | some (a,g1)=>(match q.get H x.2 g1 with | none=>none | some (b,g2)=>some ((a,b),g2)),fun {H x g t g'} e k=>by
   cases h1:p.get H x.1 g with
   | none=>rw [h1] at e;cases e
   | some y=>
    obtain ⟨a,g1⟩:=y;rw [h1] at e;simp only at e
    cases h2:q.get H x.2 g1 with
    | none=>rw [h2] at e;cases e
    | some z=>
     obtain ⟨b,g2⟩:=z;rw [h2] at e
     cases e
     obtain ⟨k2,e2⟩:=q.inv h2 k;obtain ⟨k1,e1⟩:=p.inv h1 k2;exact ⟨k1,Prod.ext e1 e2⟩⟩
end
def nK (n:Nat):Pat Nat:=rP n (fun x=>Nat.beq x n) fun _ h=>fL h
def nT (id:Nat):Pat Nat:=
 ⟨Unit,fun R=>R,fun g _=>g,fun H _=>H id,fun H x g=>some ((),match g with | none=>some (decide (x=H id)) | some b=>some (b&&decide (x=H id))),fun {H x g t g'} e k=>by
  cases e
  cases g with
  | none=>exact ⟨trivial,of_decide_eq_true k⟩
  | some b=>
   have k:(b&&decide (x=H id))=true:=k;simp only [bZ,decide_eq_true_eq] at k;exact ⟨k.1,k.2⟩⟩
abbrev nV:Pat Nat:=HL
abbrev jN:Type 1:=Pat (List PV)
abbrev gH:Type 1:=Pat PV
def vI (k:IntKind):gH:=iQ (.int k) (fun x=>match x with | .int q n=>bif decide (q=k) then some n else none | _=>none) (fun x b h=>by
 split at h
 ·rename_i q n
  by_cases e:q=k
  ·subst e;rw [Os rfl] at h;cases h;rfl
  ·rw [Pn e] at h;cases h
 ·cases h) HL
def vB:gH:=iQ .bool (fun x=>match x with | .bool b=>some b | _=>none) (fun x b h=>by cases x<;>cases h;rfl) HL
def vDl (p:jN):gH:=iQ .data (fun x=>match x with | .data b=>some b | _=>none) (fun x b h=>by cases x<;>cases h;rfl) p
def vD:gH:=vDl HL
def vA (p:jN):gH:=iQ .agg (fun x=>match x with | .agg b=>some b | _=>none) (fun x b h=>by cases x<;>cases h;rfl) p
def oO:gH:=rP .nils (fun x=>match x with | .nils=>true | _=>false) fun x h=>by cases x<;>cases h;rfl
def vE:gH:=rP .emp (fun x=>match x with | .emp=>true | _=>false) fun x h=>by cases x<;>cases h;rfl
def vP (id o:Nat) (e i:Pat Nat):gH:=iQ (fun b=>.ptr id b.1 b.2 o) (fun x=>match x with | .ptr a e i f=>bif Nat.beq a id&&Nat.beq f o then some (e,i) else none | _=>none) (fun x b h=>by
 split at h
 ·rename_i a e i f
  cases hc:(Nat.beq a id&&Nat.beq f o) with
  | false=>rw [hc] at h;cases h
  | true=>
   rw [hc] at h;simp only [bZ] at hc
   cases h
   rw [fL hc.1,fL hc.2]
 ·cases h) (tN e i)
def QP (id o n z:Nat) (e i:Pat Nat):gH:=iQ (fun b=>.sub id b.1 b.2 o n z) (fun x=>match x with | .sub a e i f m y=>bif Nat.beq a id&&(Nat.beq f o&&(Nat.beq m n&&Nat.beq y z)) then some (e,i) else none | _=>none) (fun x b h=>by
 split at h
 ·rename_i a e i f m y
  cases hc:(Nat.beq a id&&(Nat.beq f o&&(Nat.beq m n&&Nat.beq y z))) with
  | false=>rw [hc] at h;cases h
  | true=>
   rw [hc] at h;simp only [bZ] at hc
   cases h
   rw [fL hc.1,fL hc.2.1,fL hc.2.2.1,fL hc.2.2.2]
 ·cases h) (tN e i)
def vX (o:Nat) (p:gH):gH:=iQ (fun b=>.eptr [b] 0 o) (fun x=>match x with | .eptr [y] i f=>bif Nat.beq i 0&&Nat.beq f o then some y else none | _=>none) (fun x b h=>by
 split at h
 ·rename_i y i f
  cases hc:(Nat.beq i 0&&Nat.beq f o) with
  | false=>rw [hc] at h;cases h
  | true=>
   rw [hc] at h;simp only [bZ] at hc
   cases h
   rw [fL hc.1,fL hc.2]
 ·cases h) p
def vO (id:Nat) (lo len ext c:Pat Nat):gH:=iQ (fun b=>.own id b.1 b.2.1 b.2.2.1 (some b.2.2.2)) (fun x=>match x with | .own a lo len ext (some c)=>bif Nat.beq a id then some (lo,len,ext,c) else none | _=>none) (fun x b h=>by
 split at h
 ·rename_i a lo len ext c
  cases hc:Nat.beq a id with
  | false=>rw [hc] at h;cases h
  | true=>rw [hc] at h;cases h;rw [fL hc]
 ·cases h) (tN lo (tN len (tN ext c)))
def vW (id:Nat) (lo len ext:Pat Nat):gH:=iQ (fun b=>.own id b.1 b.2.1 b.2.2 none) (fun x=>match x with | .own a lo len ext none=>bif Nat.beq a id then some (lo,len,ext) else none | _=>none) (fun x b h=>by
 split at h
 ·rename_i a lo len ext
  cases hc:Nat.beq a id with
  | false=>rw [hc] at h;cases h
  | true=>rw [hc] at h;cases h;rw [fL hc]
 ·cases h) (tN lo (tN len ext))
def vF (n:Nat) (p q:jN):gH:=iQ (fun b=>.fn (.func n) b.1 b.2) (fun x=>match x with | .fn (.func k) a b=>bif Nat.beq k n then some (a,b) else none | _=>none) (fun x b h=>by
 split at h
 ·rename_i k a b
  cases hc:Nat.beq k n with
  | false=>rw [hc] at h;cases h
  | true=>rw [hc] at h;cases h;rw [fL hc]
 ·cases h) (tN p q)
def lN:jN:=rP [] (fun x=>match x with | []=>true | _::_=>false) fun x h=>by cases x<;>cases h;rfl
def lC (p:gH) (q:jN):jN:=iQ (fun b=>b.1::b.2) (fun x=>match x with | y::r=>some (y,r) | []=>none) (fun x b h=>by cases x<;>cases h;rfl) (tN p q)
def fN:Pat aG:=rP [] (fun x=>match x with | []=>true | _::_=>false) fun x h=>by cases x<;>cases h;rfl
def fV (s:Nat) (p:gH) (q:Pat aG):Pat aG:=iQ (fun b=>(s,.v b.1)::b.2) (fun x=>match x with | (k,.v y)::r=>bif Nat.beq k s then some (y,r) else none | _=>none) (fun x b h=>by
 split at h
 ·rename_i k y r
  cases hc:Nat.beq k s with
  | false=>rw [hc] at h;cases h
  | true=>rw [hc] at h;cases h;rw [fL hc]
 ·cases h) (tN p q)
def fX (s:Nat) (p:gH) (q:Pat aG):Pat aG:=iQ (fun b=>(s,.box b.1)::b.2) (fun x=>match x with | (k,.box y)::r=>bif Nat.beq k s then some (y,r) else none | _=>none) (fun x b h=>by
 split at h
 ·rename_i k y r
  cases hc:Nat.beq k s with
  | false=>rw [hc] at h;cases h
  | true=>rw [hc] at h;cases h;rw [fL hc]
 ·cases h) (tN p q)
def rhN:Pat Hp:=rP [] (fun x=>match x with | []=>true | _::_=>false) fun x h=>by cases x<;>cases h;rfl
def rhB (fz pu:Bool) (esz:Nat) (p:jN) (q:Pat Hp):Pat Hp:=iQ (fun b=>⟨fz,pu,esz,b.1⟩::b.2) (fun x=>match x with | ⟨a,b,c,rows⟩::r=>bif (a==fz)&&((b==pu)&&Nat.beq c esz) then some (rows,r) else none | []=>none) (fun x b h=>by
 split at h
 ·rename_i a b c rows r
  cases hc:((a==fz)&&((b==pu)&&Nat.beq c esz)) with
  | false=>rw [hc] at h;cases h
  | true=>
   rw [hc] at h;simp only [bZ,beq_iff_eq] at hc
   cases h
   rw [hc.1,hc.2.1,fL hc.2.2]
 ·cases h) (tN p q)
structure RPt where
 p:jN
 n:∀ r r' t,(p.of r t).length=(p.of r' t).length
structure HPt where
 p:Pat Hp
 n:∀ r r' t id,blen (p.of r t) id=blen (p.of r' t) id
def rA:RPt:=⟨HL,fun _ _ _=>rfl⟩
def rN:RPt:=⟨lN,fun _ _ _=>rfl⟩
def rC (p:gH) (q:RPt):RPt:=⟨lC p q.p,fun r r' t=>Aaa (·+1) (q.n r r' t.2)⟩
def hN:HPt:=⟨rhN,fun _ _ _ _=>rfl⟩
def hB (fz pu:Bool) (esz:Nat) (p:RPt) (q:HPt):HPt:=⟨rhB fz pu esz p.p q.p,fun r r' t id=>by
 cases id with
 | zero=>exact p.n r r' t.1
 | succ k=>exact q.n r r' t.2 k⟩
abbrev rQ:Type:=Hp×aG×aG
abbrev r0:Nat→Nat:=fun _=>0
def pS (h:HPt) (p o:Pat aG):Pat rQ:=
 ⟨h.p.T×p.T×o.T,fun R=>h.p.A (p.A (o.A R)),fun g t=>o.app (p.app (h.p.app g t.1) t.2.1) t.2.2,fun _ t=>(h.p.of (blen (h.p.of r0 t.1)) t.1,p.of (blen (h.p.of r0 t.1)) t.2.1,o.of (blen (h.p.of r0 t.1)) t.2.2),
  fun _ x g=>match h.p.get (blen x.1) x.1 g with | none=>none | some (a,g1)=>(match p.get (blen x.1) x.2.1 g1 with | none=>none | some (b,g2)=>(match o.get (blen x.1) x.2.2 g2 with | none=>none | some (c,g3)=>some ((a,b,c),g3))),fun {H x g t g'} e k=>by
   obtain ⟨X,Y,Z⟩:=x
   cases h1:h.p.get (blen X) X g with
   | none=>simp only [h1] at e;cases e
   | some y=>
    obtain ⟨a,g1⟩:=y;simp only [h1] at e
    cases h2:p.get (blen X) Y g1 with
    | none=>rw [h2] at e;cases e
    | some z=>
     obtain ⟨b,g2⟩:=z;rw [h2] at e;simp only at e
     cases h3:o.get (blen X) Z g2 with
     | none=>rw [h3] at e;cases e
     | some w=>
      obtain ⟨c,g3⟩:=w;rw [h3] at e
      cases e
      obtain ⟨k3,e3⟩:=o.inv h3 k;obtain ⟨k2,e2⟩:=p.inv h2 k3;obtain ⟨k1,e1⟩:=h.p.inv h1 k2;refine ⟨k1,?_⟩;show (X,Y,Z)=(h.p.of (blen (h.p.of r0 a)) a,p.of (blen (h.p.of r0 a)) b,o.of (blen (h.p.of r0 a)) c);have e4:blen (h.p.of r0 a)=blen X:=funext fun id=>by
       rw [h.n r0 (blen X) a id,← e1]
      rw [e4,← e1,← e2,← e3]⟩
structure St where
 p:Pat rQ
 g:Nat→p.A Prop
def runS:List St→Nat→rQ→Prop
 | [],_,_=>False
 | s::r,n,x=>match s.p.get r0 x none with | some (t,b)=>HK b (s.p.app (s.g n) t) | none=>runS r n x
def pL:List St→rQ→Prop
 | [],_=>False
 | s::r,x=>match s.p.get r0 x none with | some (t,b)=>HK b (∃ n,s.p.app (s.g n) t) | none=>pL r x
theorem LS {x:rQ}:∀ {L:List St},pL L x→∃ n,runS L n x
 | [],h=>h.elim
 | s::r,h=>by
  unfold pL at h;unfold runS;split at h
  ·rename_i t b e;obtain ⟨hb,n,h⟩:=LR.1 h;exact ⟨n,LR.2 ⟨hb,h⟩⟩
  ·obtain ⟨n,h⟩:=LS h;exact ⟨n,h⟩
theorem EU {x:rQ} {n:Nat}:∀ {L:List St},runS L n x→∃ s,s∈L∧∃ t,x=s.p.of r0 t∧s.p.app (s.g n) t
 | [],h=>h.elim
 | s::r,h=>by
  unfold runS at h;split at h
  ·rename_i t b e;obtain ⟨hb,h⟩:=LR.1 h;exact ⟨s,dS,t,(s.p.inv e hb).2,h⟩
  ·obtain ⟨s',h1,h2⟩:=EU h;exact ⟨s',fC _ h1,h2⟩
def HM (gc:Bool) (L:List St) (n:Nat) (G:aG) (k:Nat) (F':aG) (H':Hp):Prop:=runS L n (bif gc then BU F' k H' else H',F',G)
def AllB (E:Env) (callK:CK) (lp:LP) (yk:aG→YK) (b:TC) (gc:Bool) (Q:Qx) (L:List St):List St→Prop
 | []=>True
 | s::r=>(∀ t,s.p.app (s.g 0) t=False)∧(∀ n t,WC E callK lp (s.p.of r0 t).2.2 (yk (s.p.of r0 t).2.2) b (s.p.of r0 t).2.1 (s.p.of r0 t).1 (K5 (HM gc L n (s.p.of r0 t).2.2 (s.p.of r0 t).1.length) Q)=s.p.app (s.g (n+1)) t)∧AllB E callK lp yk b gc Q L r
theorem AllB.mem {E:Env} {callK:CK} {lp:LP} {yk:aG→YK} {b:TC} {gc:Bool} {Q:Qx} {L:List St}:∀ {l:List St},AllB E callK lp yk b gc Q L l→∀ s∈l,(∀ t,s.p.app (s.g 0) t=False)∧(∀ n t,WC E callK lp (s.p.of r0 t).2.2 (yk (s.p.of r0 t).2.2) b (s.p.of r0 t).2.1 (s.p.of r0 t).1 (K5 (HM gc L n (s.p.of r0 t).2.2 (s.p.of r0 t).1.length) Q)=s.p.app (s.g (n+1)) t)
 | [],_,s,h=>by cases h
 | x::r,h,s,hs=>by
  rcases qAo.1 hs with rfl|hs
  ·exact ⟨h.1,h.2.1⟩
  ·exact AllB.mem h.2.2 s hs
section
variable {E:Env} {callK:CK} {P:EP} {lp:LP} {yk:aG→YK} {b:TC} {Q:Qx} {L:List St} {id:Nat} {F G:aG} {H:Hp}
theorem bU.st (hP:aK P E) (hG:Good P callK) (hY:cF P E (yk G)) (hl:LpOk P E lp G b) (hb:AllB E callK lp yk b false Q L L) (h:pL L (H,F,G)) (hf:gW b=true:=by kernel_rfl):bU P (.loop id b) F H Q:=by
 obtain ⟨n,h⟩:=LS h;refine bU.intro (id:=id) hP hG hf hY hl (fun n F H=>runS L n (H,F,G)) (fun F H h=>?_) (fun n F H h=>?_) n F H h
 ·obtain ⟨s,hs,t,_,h⟩:=EU h;rw [(hb.mem s hs).1 t] at h;exact h
 ·obtain ⟨s,hs,t,e,h⟩:=EU h;rw [← (hb.mem s hs).2 n t,← e] at h;exact h
theorem bU.stG (hP:aK P E) (hG:Good P callK) (hY:cF P E (yk G)) (hl:LpOk P E lp G b) (hb:AllB E callK lp yk b true Q L L) (h:pL L (H,F,G)) (hf:gW b=true:=by kernel_rfl):bU P (.lG id b) F H Q:=by
 obtain ⟨n,h⟩:=LS h;refine bU.introG (id:=id) hP hG hf hY hl (fun n F H=>runS L n (H,F,G)) (fun F H h=>?_) (fun n F H h=>?_) n F H h
 ·obtain ⟨s,hs,t,_,h⟩:=EU h;rw [(hb.mem s hs).1 t] at h;exact h
 ·obtain ⟨s,hs,t,e,h⟩:=EU h;rw [← (hb.mem s hs).2 n t,← e] at h;exact h
def AllJ (E:Env) (callK:CK) (lp:LP) (yk:aG→YK) (b:TC) (Q:Qx):List St→Prop
 | []=>True
 | s::r=>(∀ n t,WC E callK lp (s.p.of r0 t).2.2 (yk (s.p.of r0 t).2.2) b (s.p.of r0 t).2.1 (s.p.of r0 t).1 Q=s.p.app (s.g n) t)∧AllJ E callK lp yk b Q r
theorem AllJ.mem {E:Env} {callK:CK} {lp:LP} {yk:aG→YK} {b:TC} {Q:Qx}:∀ {l:List St},AllJ E callK lp yk b Q l→∀ s∈l,∀ n t,WC E callK lp (s.p.of r0 t).2.2 (yk (s.p.of r0 t).2.2) b (s.p.of r0 t).2.1 (s.p.of r0 t).1 Q=s.p.app (s.g n) t
 | [],_,s,h=>by cases h
 | x::r,h,s,hs=>by
  rcases qAo.1 hs with rfl|hs
  ·exact h.1
  ·exact AllJ.mem h.2 s hs
theorem bU.stJ (hP:aK P E) (hG:Good P callK) (hY:cF P E (yk G)) (hl:LpOk P E lp G b) (hb:AllJ E callK lp yk b Q L) (h:pL L (H,F,G)) (hf:gW b=true:=by kernel_rfl):bU P (.join id b) F H Q:=by obtain ⟨n,h⟩:=LS h;obtain ⟨s,hs,t,e,h⟩:=EU h;rw [← hb.mem s hs n t,← e] at h;exact bU.intoJ hP hG hY hl hf h
end
abbrev eC (S:SE) (d:Nat) (yk:aG→YK) (b:TC) (gc:Bool) (L:Qx→List St):Prop:=∀ Q,AllB S.E (uQ S d) S.lp yk b gc Q (L Q) (L Q)
abbrev gA (S:SE) (d:Nat) (yk:aG→YK) (b:TC) (L:Qx→List St):Prop:=∀ Q,AllJ S.E (uQ S d) S.lp yk b Q (L Q)
abbrev a:aG→YK:=fun _=>yQ
abbrev cQ (P:EP) (lp:LP) (G:aG) (id:Nat) (c:TC):Prop:=∀ F H Q,lp id G F H Q→bU P c F H Q
def fG:List (Nat×(Qx→List St))→LP
 | [],_,_,_,_,_=>False
 | p::r,id,G,F,H,Q=>bif Nat.beq id p.1 then pL (p.2 Q) (H,F,G) else fG r id G F H Q
structure Sg where
 p:jN
 R:Type
 k:(PV→Prop)→R
abbrev Sg.W (s:Sg):Type:=s.p.A (s.R→Prop)
def Sg.pw (s:Sg) (w:s.W) (az:List PV) (K:PV→Prop):Prop:=match s.p.get r0 az none with | some (t,b)=>HK b (s.p.app w t (s.k K)) | none=>False
def sE (E:Env) (l:List (Nat×(List PV→(PV→Prop)→Prop))) (lp:LP):SE:=⟨E,ygn l,ygo [],lp,fun _=>none⟩
def cG:LP:=fun _ _ _ _ _=>False
def bN (S:SE) (d:Nat) (t:TFn) (s:Sg) (w:s.W):Prop:=∀ a K,WP S d t (s.p.of r0 a) K=s.p.app w a (s.k K)
theorem Sg.inv {s:Sg} {w:s.W} {az:List PV} {K:PV→Prop} (h:s.pw w az K):∃ a,az=s.p.of r0 a∧s.p.app w a (s.k K):=by
 unfold Sg.pw at h;split at h
 ·rename_i t b e;obtain ⟨hb,h⟩:=LR.1 h;exact ⟨t,(s.p.inv e hb).2,h⟩
 ·exact h.elim
theorem okW {P:EP} {S:SE} {d n:Nat} {t:TFn} {s:Sg} {w:s.W} (hq:bN S d t s w) (hS:SEOk P S) (hR:bA P S.E (uQ S d) t.body) (hl:LpOk P S.E S.lp [] t.body) (hs:∀ az,S.E.sum n az=none) (he:∀ az H,S.E.eff n az H=none) (hf:S.E.fns n=some t.fn) (hu:S.E.qui n=true) (hn:S.E.nl n=false):∀ az K,s.pw w az K→∃ r,K r∧jZ P n az r:=fun az K h=>by obtain ⟨a,e,k⟩:=Sg.inv h;subst e;rw [← hq a K] at k;exact ySK hS hR hl hf hu hs he k hn
end Go.Pf
namespace Go.Pf.Vc
open Go Go.Pf
def LT:Nat:=9
def LU:Nat:=4
def LW:Nat:=72
def LX:Nat:=73
def AU:Nat:=46
def Cq:Nat:=23
def HN:Nat:=10
def QQ:Nat:=12
def EV:Nat:=24
def EW:Nat:=78
def LY:Nat:=79
def LZ:Nat:=49
def Ma:Nat:=48
def HO:Nat:=26
def Cr:Nat:=74
def EX:Nat:=75
def Ct:Nat:=83
def Mb:Nat:=82
def AV:Nat:=51
def EY:Nat:=76
def HP:Nat:=77
def AW:Nat:=47
def yX:Nat:=28
def Cu:Nat:=125
def Mc:Nat:=103
def Md:Nat:=88
def Me:Nat:=104
def Mf:Nat:=90
def Mg:Nat:=89
def Cv:Nat:=53
def Cw:Nat:=124
def EZ:Nat:=123
def Cx:Nat:=84
def Cy:Nat:=85
def Mh:Nat:=115
def Mi:Nat:=102
def HQ:Nat:=87
def Mj:Nat:=86
def Cz:Nat:=52
def AX:Nat:=29
def HR:Nat:=128
def HS:Nat:=127
def O6:Nat:=126
def Mk:Nat:=105
def Ml:Nat:=91
def HT:Nat:=122
def HU:Nat:=100
def QS:Nat:=80
def Mm:Nat:=55
def Fa:Nat:=32
def CA:Nat:=25
def Mn:Nat:=101
def Mo:Nat:=81
def CB:Nat:=50
def QT:Nat:=27
def CC:Nat:=30
def O7:Nat:=54
def CD:Nat:=31
def HV:Nat:=13
def HW:Nat:=14
def Mp:Nat:=56
def Mq:Nat:=33
def Mr:Nat:=57
def O8:Nat:=114
def O9:Nat:=93
def ygw:Nat:=106
def yiQ:Nat:=92
def HX:Nat:=58
def HY:Nat:=60
def Fb:Nat:=59
def Ms:Nat:=34
def HZ:Nat:=16
def Ia:Nat:=15
def P0:Nat:=11
def Mt:Nat:=5
def Fd:Nat:=61
def Ib:Nat:=35
def Mu:Nat:=17
def rR:Nat:=36
def Fe:Nat:=37
def CE:Nat:=67
def Ff:Nat:=95
def Fg:Nat:=69
def AY:Nat:=44
def Fh:Nat:=66
def Ic:Nat:=96
def Fi:Nat:=63
def yY:Nat:=39
def Mv:Nat:=116
def Id:Nat:=68
def oP:Nat:=43
def Ie:Nat:=138
def Ig:Nat:=140
def Mw:Nat:=142
def Mx:Nat:=98
def Ih:Nat:=119
def My:Nat:=120
def Mz:Nat:=121
def Fj:Nat:=97
def Fk:Nat:=65
def Ii:Nat:=139
def MA:Nat:=134
def MB:Nat:=141
def MC:Nat:=135
def MD:Nat:=117
def ME:Nat:=136
def MF:Nat:=118
def Ij:Nat:=94
def MG:Nat:=62
def xD:Nat:=38
def MH:Nat:=64
def pM:Nat:=40
def CF:Nat:=41
def vC:Nat:=42
def MI:Nat:=18
def MJ:Nat:=19
def Ik:Nat:=20
def P1:Nat:=99
def MK:Nat:=70
def ML:Nat:=71
def MM:Nat:=45
def MN:Nat:=21
def MO:Nat:=6
def MP:Nat:=22
def MQ:Nat:=7
def MR:Nat:=8
def QU:Nat:=3
def zF (d s:Nat) (o:AOp):AO:=⟨some d,o,some (s,false)⟩
def zT (d s:Nat) (o:AOp):AO:=⟨some d,o,some (s,true)⟩
def zS (n:Nat) (a x:Opd):AO:=⟨none,.store n a x,none⟩
def zR:Nat→Nat→List Nat
 | _,0=>[]
 | a,n+1=>a::zR (a+1) n
def zQ:TC→TC→TC:=.seq
def zC:Opd→TC→TC→TC:=.cond
def zB:Nat→TC→TC:=.block
abbrev zI:Sh:=.one (.i .i64)
abbrev zD:Sh:=.one .d
abbrev z2:Sh:=.agg [.i .i64,.i .i64]
abbrev z4:Sh:=.agg [.i .i64,.i .i64,.i .i64,.i .i64]
abbrev zK:Sh:=.agg [.i .i64,.d,.d]
abbrev zE:Sh:=.agg [.d,.d]
def ySN (o:AO):Nat:=
 match o.dst with
 | some d=>d
 | none=>(match o.op with | .store _ (.t a) _=>a+100000 | _=>999999)
def anF:List (Sh×Nat×List Nat)→Nat→Option (Sh×Nat)
 | [],_=>none
 | (s,m,l)::r,k=>bif memN l k then some (s,m) else anF r k
def QV (tb:List (Sh×Nat×List Nat)):Nat→List AO→List An
 | _,[]=>[]
 | i,o::r=>(match anF tb (ySN o) with | some (s,m)=>⟨i,s,m⟩::QV tb (i+1) r | none=>QV tb (i+1) r)
def iR (tb:List (Sh×Nat×List Nat)) (lps:List (Nat×Nat)):Nat→AC→TC
 | _,.skip=>.skip
 | _,.ops l ps fg=>.ops l (QV tb 0 l) ps fg
 | k,.seq a b=>.seq (iR tb lps k a) (iR tb lps k b)
 | k,.cond c a b=>.cond c (iR tb lps k a) (iR tb lps k b)
 | _,.block id b=>.block id (iR tb lps id b)
 | k,.loop b=>.loop ((lps.lookup k).getD 0) (iR tb lps k b)
 | k,.lG b=>.lG ((lps.lookup k).getD 0) (iR tb lps k b)
 | _,.exit id=>.exit id
 | _,.ret=>.ret
 | _,.bad=>.bad
 | _,.rangeF g ps az bd=>.cut (.rangeF g ps az bd)
 | _,.yret c pre d y args e fgt=>.cut (.yret c pre d y args e fgt)
theorem AZ (tb:List (Sh×Nat×List Nat)) (lps:List (Nat×Nat)):∀ (c:AC) (k:Nat),dQ (iR tb lps k c)=c
 | .skip,_=>rfl
 | .ops _ _ _,_=>rfl
 | .seq a b,k=>by simp only [iR,dQ,AZ tb lps a,AZ tb lps b]
 | .cond _ a b,k=>by simp only [iR,dQ,AZ tb lps a,AZ tb lps b]
 | .block _ b,k=>by simp only [iR,dQ,AZ tb lps b]
 | .loop b,k=>by simp only [iR,dQ,AZ tb lps b]
 | .lG b,k=>by simp only [iR,dQ,AZ tb lps b]
 | .exit _,_=>rfl
 | .ret,_=>rfl
 | .bad,_=>rfl
 | .rangeF ..,_=>rfl
 | .yret ..,_=>rfl
def QW (tb:List (Sh×Nat×List Nat)) (lps:List (Nat×Nat)):Option AFn→TFn
 | some f=>⟨f.nparams,f.results,iR tb lps 999999 f.body⟩
 | none=>⟨0,[],.bad⟩
theorem ySa {tb:List (Sh×Nat×List Nat)} {lps:List (Nat×Nat)} {o:Option AFn} (h:o.isSome=true):o=some (QW tb lps o).fn:=by
 cases o with
 | none=>cases h
 | some f=>simp only [QW,TFn.fn,AZ]
def dT (t:TFn) (id:Nat):TC:=
 match (mG t.body).lookup id with
 | some (.loop _ b)=>b
 | some (.lG _ b)=>b
 | _=>.skip
def rg:Nat→Nat→List Nat
 | a,0=>[a]
 | a,n+1=>a::rg (a+1) n
def xp:List Nat→List Nat
 | a::b::r=>bif Nat.blt 5000 b then rg a (b-5000)++xp r else a::xp (b::r)
 | l=>l
def tl (tb:List (Sh×Nat×List Nat)) (lps:List (Nat×Nat)) (loc:List Nat) (fg:List (Nat×List Nat)) (f:Func):TFn:=QW tb lps (yI Proofs.Tryz.prog loc (fun i=>xp ((fg.lookup i).getD [])) f)
theorem bB {tb:List (Sh×Nat×List Nat)} {lps:List (Nat×Nat)} {loc:List Nat} {fg:List (Nat×List Nat)} {f:Func} (h:(yI Proofs.Tryz.prog loc (fun i=>xp ((fg.lookup i).getD [])) f).isSome=true):yI Proofs.Tryz.prog loc (fun i=>xp ((fg.lookup i).getD [])) f=some (tl tb lps loc fg f).fn:=ySa h
def P2:TFn:=tl [(zK,0,[4,9])] [] [1] [(1,[1,3,5009]),(0,[0,2])] Proofs.Tryz.f9
def QX:TFn:=tl [(zK,0,[12,13])] [(0,4277600)] [] [(6,[0,3,7,15,16,17]),(3,[8,9,14]),(5,[0,3,14]),(4,[7,10,5003]),(2,[4,5,6]),(0,[2])] Proofs.Tryz.f4
def QY:TC:=dT QX 4277600
def QZ:TFn:=tl [(zI,0,[10,11,21,22])] [(0,10434000)] [] [(8,[0,3,4,15,24]),(6,[16,17]),(7,[15,18,5005]),(5,[12,13,14]),(3,[7,9,10,11]),(2,[7,8]),(1,[5,6]),(0,[2])] Proofs.Tryz.f72
def Ra:TC:=dT QZ 10434000
def Rb:TFn:=tl [(zI,0,[10,11,21,22])] [(0,64079100)] [] [(8,[0,3,4,15,24]),(6,[16,17]),(7,[15,18,5005]),(5,[12,13,14]),(3,[7,9,10,11]),(2,[7,8]),(1,[5,6]),(0,[2])] Proofs.Tryz.f73
def Rc:TC:=dT Rb 64079100
def Rd:TFn:=tl [(zK,0,[6,9,16,24,32,39,45,54,59,67,72,78]),(zI,0,[33,34,42,43,56,57,62,63])] [(0,87419700)] [1] [(14,[81]),(13,[81]),(12,[1,49,50,51,66,5014]),(11,[64,65]),(10,[1,49,50,64]),(9,[4,53,5010]),(8,[51,52]),(6,[3,47,48]),(5,[1,3,47]),(4,[14,5032]),(3,[1,3,14]),(2,[8,5005]),(1,[5,6,7]),(0,[0,2])] Proofs.Tryz.f46
def Re:TC:=dT Rd 87419700
def MS:TFn:=tl [(zE,0,[9,14,19,23,36,45]),(zK,0,[27,28,40,41,43,46,48])] [(0,12157600),(2,12157601)] [1,4,7] [(18,[1,36,5003]),(17,[49,50]),(16,[1,36,37,38,49]),(15,[7,42,5006]),(14,[39,40,41]),(12,[23,5003,35]),(11,[5,32,34]),(10,[1,5,23,24,25,32,33]),(9,[31]),(8,[4,29,30]),(7,[26,27,28]),(5,[21,22]),(4,[1,21]),(3,[17,5003]),(2,[1,17]),(1,[8,5008]),(0,[0,2])] Proofs.Tryz.f23
def Rf:TC:=dT MS 12157600
def Rg:TC:=dT MS 12157601
def P4:TFn:=tl [(zE,0,[10])] [] [1] [(6,[12]),(5,[12]),(4,[1,3,7,9,10,11]),(3,[1,3,7,8]),(2,[6]),(1,[4,5]),(0,[0,2])] Proofs.Tryz.f10
def yOT:TFn:=tl [(zI,0,[100018])] [] [] [(5,[0,2,3,14,16,17,18]),(4,[2,14,15]),(3,[4,13]),(2,[7,5005]),(1,[6]),(0,[5])] Proofs.Tryz.f12
def P5:TFn:=tl [] [] [2] [(1,[0,3,4])] Proofs.Tryz.f24
def P6:TFn:=tl [(zE,0,[11])] [] [2] [(1,[1,2,5,5009]),(0,[0,4])] Proofs.Tryz.f78
def Rh:TFn:=tl [(zK,0,[14,24,30]),(zI,0,[19,20,27,28,32,33])] [(0,45203600)] [1] [(10,[1,5,14,5003,38]),(9,[37]),(8,[6,7,21,5015]),(7,[17,5003]),(5,[13]),(4,[4,11]),(3,[1,4,11,12]),(2,[10]),(1,[8,9]),(0,[0,2,3])] Proofs.Tryz.f79
def Ri:TC:=dT Rh 45203600
def P7:TFn:=tl [(zE,0,[18]),(zK,0,[20,21])] [] [2] [(6,[1,2,16,5008]),(5,[1,2,16]),(4,[6,10,12,5003]),(3,[1,2,6,10,11]),(2,[9]),(1,[7,8]),(0,[0,4,5])] Proofs.Tryz.f49
def P8:TFn:=tl [] [] [] [(3,[0,1,6,9]),(2,[1,6,7,8]),(1,[5]),(0,[4])] Proofs.Tryz.f48
def P9:TFn:=tl [(zE,0,[8])] [] [4] [(1,[0,1,5,5009])] Proofs.Tryz.f26
def Q0:TFn:=tl [] [] [] [(3,[0,4,8,9]),(2,[0,4,5003]),(1,[3]),(0,[2])] Proofs.Tryz.f74
def Rj:TFn:=tl [] [(0,32725300)] [] [(3,[0,1,6,11]),(2,[6,5004]),(1,[5]),(0,[4])] Proofs.Tryz.f75
def Rk:TC:=dT Rj 32725300
def Q1:TFn:=tl [(z2,0,[4,8,11,18,21])] [] [1] [(3,[25]),(2,[25]),(1,[1,3,5021]),(0,[0,2])] Proofs.Tryz.f83
def Rl:TFn:=tl [(zI,0,[10,11])] [(0,38508400)] [] [(8,[3,6,5003,17]),(7,[5,14,16]),(6,[3,5,5003,14,15]),(5,[12,13]),(4,[9,10,11]),(2,[0]),(0,[2])] Proofs.Tryz.f82
def Rm:TC:=dT Rl 38508400
def Q2:TFn:=tl [] [] [9,2,3] [(1,[2,3,5,5005]),(0,[0,1,4])] Proofs.Tryz.f51
def Q3:TFn:=tl [] [] [] [(11,[0,1,48,49,50]),(10,[7,9,12,13,40,5007]),(9,[6,35,5004]),(8,[11,33,34]),(7,[31,32]),(6,[8,10,25,5005]),(5,[22,23,24]),(4,[20,21]),(3,[18,19]),(2,[16,17]),(1,[14,15]),(0,[4,5])] Proofs.Tryz.f76
def Q4:TFn:=tl [] [] [6] [(5,[1,2,13,20,5004]),(4,[1,2,13,5006]),(3,[0,11]),(2,[0,1,2,11,12]),(1,[8,9,10]),(0,[7])] Proofs.Tryz.f77
def Q5:TFn:=tl [(z2,0,[25,28,31,34,71,74])] [] [2,3,4] [(10,[2,3,14,16,65,67,5015]),(9,[2,3,14,16,65,66]),(8,[13,15,62,63,64]),(7,[8,10,11,12,52,5009]),(6,[7,9,42,5009]),(5,[36,5005]),(4,[6,21,24,5011]),(3,[2,3,6,21,22,23]),(2,[20]),(1,[17,18,19]),(0,[0,1,5])] Proofs.Tryz.f47
def Q6:TFn:=tl [] [] [2,4] [(3,[1,2,6,9]),(2,[1,6,7,8]),(1,[5]),(0,[0])] Proofs.Tryz.f28
def Q7:TFn:=tl [] [] [2] [(1,[0,3,4])] Proofs.Tryz.f125
def Q8:TFn:=tl [] [] [] [(1,[0,3,4,5]),(0,[2])] Proofs.Tryz.f103
def Q9:TFn:=tl [] [] [] [(13,[19]),(12,[19]),(11,[0,1,16,17,18]),(10,[0,1,16]),(9,[13,14,15]),(8,[0,1,13]),(7,[6,11]),(6,[12]),(5,[12]),(4,[0,1,6,11]),(3,[5]),(2,[9,10]),(1,[7,8]),(0,[4])] Proofs.Tryz.f88
def R0:TFn:=tl [] [] [] [(1,[0,3,4,5]),(0,[2])] Proofs.Tryz.f104
def R1:TFn:=tl [] [] [] [(13,[19]),(12,[19]),(11,[0,1,16,17,18]),(10,[0,1,16]),(9,[13,14,15]),(8,[0,1,13]),(7,[6,11]),(6,[12]),(5,[12]),(4,[0,1,6,11]),(3,[5]),(2,[9,10]),(1,[7,8]),(0,[4])] Proofs.Tryz.f90
def Rn:TFn:=tl [(zI,0,[10,11])] [(0,53260600)] [] [(8,[3,6,5003,17]),(7,[5,14,16]),(6,[3,5,5003,14,15]),(5,[12,13]),(4,[9,10,11]),(2,[0]),(0,[2])] Proofs.Tryz.f89
def Ro:TC:=dT Rn 53260600
def R2:TFn:=tl [(z2,0,[19,22,26,28,32,35,42,45,59])] [] [56,2,3] [(11,[11,60,63]),(10,[60,61,62]),(9,[2,58,59]),(8,[7,5003,50,5007]),(7,[3,40,5009]),(6,[24,30,5009]),(5,[2,3,24,5005]),(4,[6,16,18,5005]),(3,[2,3,6,16,17]),(2,[15]),(1,[12,13,14]),(0,[0,1,4,5])] Proofs.Tryz.f53
def R3:TFn:=tl [] [] [2,3] [(2,[5,13,14]),(1,[2,3,6,5006]),(0,[0,1,4])] Proofs.Tryz.f124
def R4:TFn:=tl [(z2,0,[10]),(zK,0,[15])] [] [2,3] [(1,[2,3,5,5015]),(0,[0,1,4])] Proofs.Tryz.f123
def R5:TFn:=tl [] [] [] [(10,[0,14,19,5005]),(9,[17,18]),(8,[14,15,16]),(7,[8,13]),(6,[11,12]),(5,[8,9,10]),(4,[4,7]),(2,[2,4,5,6]),(1,[3])] Proofs.Tryz.f115
def R6:TFn:=tl [] [] [] [(1,[0,3,4,5]),(0,[2])] Proofs.Tryz.f102
def MT:TFn:=tl [] [(0,60530100),(2,60530101)] [] [(28,[2,8,9,10,14,5004,113,120,5014]),(27,[119]),(26,[116,117,118]),(25,[113,114,115]),(24,[102,5010,120]),(23,[97,5004]),(22,[94,95,96]),(21,[11,13,16,78,85,5008]),(20,[84]),(19,[81,82,83]),(18,[78,79,80]),(17,[67,5010,85]),(16,[62,5004]),(15,[59,60,61]),(14,[12,57,58]),(13,[55,56]),(12,[1,52,53,54]),(11,[0,44,5007]),(10,[42,43]),(9,[40,41]),(8,[37,38,39]),(7,[27,34,35,36]),(6,[0,1,2,27,5006]),(5,[24,26]),(4,[24,25]),(3,[20,22,23]),(2,[20,21]),(1,[19]),(0,[6,7])] Proofs.Tryz.f87
def Rp:TC:=dT MT 60530100
def Rq:TC:=dT MT 60530101
def R7:TFn:=tl [] [] [] [(2,[8,18]),(1,[0,1,2,7,9,5008]),(0,[6])] Proofs.Tryz.f86
def R8:TFn:=tl [(z2,0,[29,32,37,40,49,52,60,63,66,140,145])] [] [2,3,4] [(26,[12,17,20,153,155,5005]),(25,[12,17,20,153,154]),(24,[19,152]),(23,[2,3,7,16,138,5013]),(22,[13,14,18,129,131,5006]),(21,[2,3,7,12,13,14,16,129,130]),(20,[127,128]),(19,[119,121,5005]),(18,[2,3,7,12,13,14,119,120]),(17,[114,5004]),(16,[8,10,15,107,5006]),(15,[9,11,94,101,5005]),(14,[99,100]),(13,[94,5004]),(12,[68,82,5011]),(11,[8,10,15,75,5006]),(10,[9,11,68,5006]),(9,[62,5005]),(8,[13,14,15]),(7,[59,60,61]),(6,[47,5011]),(5,[35,5011]),(4,[6,25,28,5006]),(3,[2,3,6,25,26,27]),(2,[24]),(1,[21,22,23]),(0,[0,1,5])] Proofs.Tryz.f52
def R9:TFn:=tl [(z2,0,[15,100017])] [] [2,3,4] [(5,[2,3,18,5004]),(4,[6,11,14,5003]),(3,[2,3,6,11,12,13]),(2,[10]),(1,[7,8,9]),(0,[0,1,5])] Proofs.Tryz.f29
def S0:TFn:=tl [(z2,0,[16,21,25,28,36,38])] [] [2,3,4] [(8,[2,3,19,34,5008]),(7,[2,3,19,23,5010]),(6,[14,20,21,22]),(5,[2,3,14,18]),(4,[6,11,15,16,17]),(3,[2,3,6,11,12,13]),(2,[10]),(1,[7,8,9]),(0,[0,1,5])] Proofs.Tryz.f128
def Rr:TFn:=tl [] [] [7,8,9,12,14] [(12,[5,6,7,14,15,41,48]),(11,[6,7,14,41,5006]),(10,[40]),(9,[3,4,9,20,33,5006]),(8,[5,13,29,31,32]),(7,[5,29,30]),(6,[28]),(5,[4,12,27]),(4,[3,6,7,9,20,5006]),(3,[17,18,19]),(2,[3,5004,9,17]),(1,[16]),(0,[0,1,2,8,11])] Proofs.Tryz.f127
def Rs:TFn:=tl [(zK,0,[14,22]),(zI,0,[19,20,25,26])] [(0,41613500)] [3,4,9,10,11] [(18,[2,3,4,14,5003]),(17,[8,9,31,61]),(16,[9,59,60]),(15,[2,3,4,9,14,15,16,59]),(14,[8,10,12,34,52,54,5004]),(13,[2,3,4,8,9,10,12,14,15,16,52,53]),(12,[51]),(11,[11,42,44,5006]),(10,[2,3,4,8,5004,14,15,16,42,43]),(9,[41]),(8,[34,5006]),(7,[33]),(6,[31,32]),(5,[28,29,30]),(4,[7,21,5006]),(3,[17,5003]),(1,[13]),(0,[0,1,6])] Proofs.Tryz.f126
def Rt:TC:=dT Rs 41613500
def S2:TFn:=tl [(z2,0,[23,29,34,48]),(zI,0,[44,47,100010])] [] [3,4,6] [(15,[9,10,45,48]),(14,[9,10,45,46,47]),(13,[11,42,44]),(12,[11,42,43]),(11,[41]),(10,[3,4,5,37,5003]),(8,[35]),(7,[3,4,5,35,36]),(6,[31,33,34]),(5,[3,4,5,31,32]),(4,[8,15,18,5012]),(3,[3,4,5,8,15,16,17]),(2,[14]),(1,[12,13]),(0,[0,1,2,7])] Proofs.Tryz.f105
def S4:TFn:=tl [(zE,0,[12]),(zK,0,[14,15])] [] [4,6,7,8] [(1,[1,4,6,7,10,5010]),(0,[0,2,3,9])] Proofs.Tryz.f91
def yMV:TFn:=tl [] [] [] [(3,[0,4,5003]),(2,[0,4]),(1,[3]),(0,[2])] Proofs.Tryz.f122
def Ru:TFn:=tl [(zK,0,[10,11,14,16,19])] [(0,94933800)] [22,5] [(7,[3,6,5003,25]),(6,[24]),(5,[5,12,5011]),(4,[9,10,11]),(2,[0]),(0,[2])] Proofs.Tryz.f100
def Rv:TC:=dT Ru 94933800
def Rw:TFn:=tl [(zE,0,[14,46,55,61,66]),((.agg [.i .i64,.i .u8,.i .i64,.i .i64,.i .i64,.i .i64,.i .i64,.i .i64]),0,[23,31,33,35,100052])] [] [69,3,4,6,7,10] [(13,[3,4,10,12,59,5013]),(12,[53,5005]),(11,[48,51,52]),(10,[3,4,10,48,49,50]),(9,[11,40,44,5003]),(8,[3,4,10,11,40,5003]),(7,[39]),(6,[2,25,28,5010]),(5,[2,3,4,25,26,27]),(4,[9,17,21,5003]),(3,[2,3,4,9,17,5003]),(2,[16]),(1,[13,14,15]),(0,[0,1,8])] Proofs.Tryz.f80
def S5:TFn:=tl [] [] [4,6,7,8,9,11] [(2,[1,6,7,11,14,5010]),(1,[4,12,13]),(0,[0,2,3,10])] Proofs.Tryz.f55
def S6:TFn:=tl [(zE,0,[16,100030])] [] [6,7,8,9,10] [(4,[10,31]),(3,[0,9,27,5003]),(2,[11,24,25,26]),(1,[1,6,7,12,5011]),(0,[2,3])] Proofs.Tryz.f32
def S7:TFn:=tl [] [] [6,7,8,9,10] [(2,[0,1,6,7,10,21,5010]),(1,[11,5009]),(0,[2,3])] Proofs.Tryz.f25
def Rx:TFn:=tl [(zK,0,[42,50]),(zI,0,[47,48,53,54])] [(0,85339800)] [3,4,5,6,9,10,13,14,16] [(28,[3,5,9,10,42,5003,105]),(27,[13,70,104]),(26,[13,15,100,103]),(25,[3,5,9,10,13,15,42,43,44,100,101,102]),(24,[99]),(23,[16,90,93,5005]),(22,[3,5,9,10,13,15,16,42,43,44,90,91,92]),(21,[89]),(20,[12,14,79,82,5006]),(19,[3,5,9,10,12,5003,42,43,44,79,80,81]),(18,[78]),(17,[67,72,5005]),(16,[13,70,71]),(15,[12,67,68,69]),(14,[58,60,5006]),(13,[58,59]),(12,[56,57]),(11,[11,49,5006]),(10,[45,5003]),(8,[41]),(7,[4,40]),(6,[37,39]),(5,[3,4,5,37,38]),(4,[8,20,23,5013]),(3,[3,4,5,8,20,21,22]),(2,[19]),(1,[17,18]),(0,[0,1,2,7])] Proofs.Tryz.f101
def Ry:TC:=dT Rx 85339800
def S8:TFn:=tl [(zE,0,[12]),(zK,0,[14,15])] [] [4,6,7,8] [(1,[1,4,6,7,10,5010]),(0,[0,2,3,9])] Proofs.Tryz.f81
def S9:TFn:=tl [] [] [4,6,7,8,9,11] [(2,[1,6,7,11,14,5010]),(1,[4,12,13]),(0,[0,2,3,10])] Proofs.Tryz.f50
def MU:TFn:=tl [(z4,0,[17,18,26,28]),(zE,0,[23,100042])] [(0,38310000)] [37,9,10,11] [(9,[0,1,7,13,5003,44]),(8,[43]),(7,[10,39,5003]),(6,[11,12,33,5005]),(5,[9,19,5013]),(4,[16,17,18]),(2,[2]),(0,[6])] Proofs.Tryz.f27
def Fl:TC:=dT MU 38310000
def Rz:TFn:=tl [(zI,0,[11,12,17,18]),(z2,0,[22,23,26,27])] [(0,12610200)] [] [(9,[0,5,13,5003,35]),(8,[7,32,34]),(7,[7,32,33]),(6,[8,31]),(5,[9,19,5011]),(4,[16,17,18]),(2,[1]),(1,[10,11,12]),(0,[4])] Proofs.Tryz.f30
def RA:TC:=dT Rz 12610200
def RB:TFn:=tl [(zI,0,[9,10])] [(0,86939300)] [] [(7,[1,5,5003]),(6,[13,14]),(5,[1,5,6,7,13]),(4,[4,11,12]),(3,[8,9,10]),(1,[0]),(0,[2])] Proofs.Tryz.f54
def RD:TC:=dT RB 86939300
def RE:TFn:=tl [(zI,0,[14,100004])] [(0,63461800)] [15] [(9,[1,3,6,7,18]),(8,[4,12,17]),(7,[4,12,5004]),(6,[5,10,11]),(5,[9]),(4,[7,8]),(0,[0,2]),(999999,[1])] Proofs.Tryz.f31
def RF:TC:=dT RE 63461800
def T1:TFn:=tl [(zE,0,[17]),(zK,0,[18,20]),((.agg [.i .i64,.i .i64,.i .i64,.i .i64,.i .i64,.i .i64,.i .i64,.i .i64,.i .i64,.i .i64,.i .i64,.i .i64,.i .i64,.i .i64,.i .i64,.i .i64,.i .i64,.i .i64,.i .i64,.i .i64]),0,[44,47,102,108,119,140,147,151,154,158,163,166,173,100007,100112,100124,100127,100136,100145,100160,100172]),(z2,0,[54,55,61,62,79,80,83,84,88,89,92,93,122,123,128,100128]),(zI,0,[169,170])] [] [48,67,70,74,133,141,167,2,3,4,5,6,11] [(17,[7,173]),(16,[156,161,5011]),(15,[156,5004]),(14,[146,5009]),(13,[8,137,5008]),(12,[0,9,10,85,129,5007]),(11,[9,10,113,5015]),(10,[11,98,5014]),(9,[85,5012]),(8,[77,5007]),(7,[72,5004]),(6,[69,70,71]),(5,[50,5018]),(4,[41,5008]),(3,[3,5003,30,5010]),(2,[22,5007]),(1,[12,5009])] Proofs.Tryz.f13
def T3:TFn:=tl [((.agg [.i .i64,.i .i64,.i .i64,.i .i64,.i .i64,.i .i64,.i .i64,.i .i64,.i .i64,.i .i64,.i .i64,.i .i64,.i .i64,.i .i64,.i .i64,.i .i64,.i .i64,.i .i64,.i .i64,.i .i64]),0,[17,19,28,32,42,51]),(z2,0,[35,36]),(zI,0,[66,67,72,73,90,91,98,99]),(z4,0,[68,69,74,75,85,86,92,93,100,101]),((.agg [.i .i64,.i .i64,.i .i64,.i .i64,.i .i64,.i .i64,.i .i64,.i .i64,.i .i64,.i .i64,.i .i64,.i .i64]),0,[100102,100103,100104])] [] [33,58,61,76,79,3,4,7,8,10] [(12,[10,105]),(11,[5,6,9,11,12,14,81,5023]),(10,[13,78,79,80]),(9,[0,63,5014]),(8,[60,61,62]),(7,[54,5005]),(5,[3,7,8,40,5013]),(4,[20,23,5016]),(3,[20,21,22]),(2,[15,5004]),(0,[1])] Proofs.Tryz.f14
def T4:TFn:=tl [(z4,0,[7,9])] [] [1] [(2,[3,4,13,5005]),(1,[1,5,5007]),(0,[0,2])] Proofs.Tryz.f56
def RG:TFn:=tl [(z4,0,[12,13])] [(0,56157900)] [4] [(9,[8,5003]),(8,[16,17]),(7,[8,9,10,16]),(6,[4,14,15]),(5,[11,12,13]),(3,[0,7]),(2,[0,7]),(1,[5,6]),(0,[2])] Proofs.Tryz.f33
def RH:TC:=dT RG 56157900
def yCm:TFn:=tl [] [] [] [(3,[0,4,5003]),(2,[0,4]),(1,[3]),(0,[2])] Proofs.Tryz.f57
def ySF:TFn:=tl [] [] [] [(7,[0,8,13,5005]),(6,[11,12]),(5,[8,9,10]),(4,[4,7]),(2,[2,4,5,6]),(1,[3])] Proofs.Tryz.f114
def yTt:TFn:=tl [] [] [] [(2,[0,6,7]),(1,[0,3,4,5]),(0,[2])] Proofs.Tryz.f93
def RI:TFn:=tl [(z4,0,[25,26,30,31,45,46,49,50,51,52,100051,100052])] [(0,53122801),(2,53122800)] [] [(2,[9,15,16,34]),(5,[35,36]),(6,[34,37,5015]),(4,[18,5015]),(3,[14,17]),(1,[12,13]),(0,[10,11])] Proofs.Tryz.f106
def ySb:TC:=dT RI 53122800
def ySc:TC:=dT RI 53122801
def T5:TFn:=tl [(z4,0,[88,89,92,93])] [(0,92709400)] [] [(30,[16,147]),(29,[2,140,5006]),(28,[18,19,20,125,137,138,139]),(27,[16,135,136]),(26,[1,129,5005]),(25,[18,19,20,125,5003]),(24,[123,124]),(23,[12,121,122]),(22,[115,5005]),(21,[17,114]),(20,[10,11,13,97,105,5008]),(19,[15,104]),(18,[1,12,13,97,5006]),(17,[75,80,5016]),(16,[75,5004]),(15,[14,56,68,5006]),(13,[62,5005]),(12,[14,56,5005]),(11,[55]),(10,[39,47,5007]),(9,[45,46]),(8,[39,5005]),(7,[32,38]),(6,[0,5004,10,11,12,32,5005]),(5,[25,31]),(4,[0,5004,10,11,12,25,5005]),(3,[24]),(2,[21,22,23])] Proofs.Tryz.f92
def ySd:TC:=dT T5 92709400
def yzv:TFn:=tl [] [] [] [(1,[0,1,4,7,5006]),(0,[5,6])] Proofs.Tryz.f58
def T6:TFn:=tl [] [] [2,3] [(2,[5,13]),(1,[2,3,6,5006]),(0,[0,1,4])] Proofs.Tryz.f60
def T7:TFn:=tl [(z4,0,[6,8])] [] [2,3] [(1,[2,3,5,5004]),(0,[0,1,4])] Proofs.Tryz.f59
def RJ:TFn:=tl [(z4,0,[15,16,23,27,29,34,38,40,47,48,100049])] [(0,63960300)] [52,5] [(13,[3,11,5003,55]),(12,[5,6,42,54]),(11,[5,6,32,50,5003]),(10,[5,6,42,5007]),(9,[32,5009]),(8,[19,5012]),(7,[17,18]),(6,[14,15,16]),(4,[0]),(2,[9,10]),(1,[7,8]),(0,[2])] Proofs.Tryz.f34
def RK:TC:=dT RJ 63960300
def T8:TFn:=tl [] [] [] [(4,[0,4,8,10,11]),(3,[0,4,8,9]),(2,[7]),(1,[5,6]),(0,[2,3])] Proofs.Tryz.f16
def T9:TFn:=tl [] [] [] [(3,[0,1,6,9]),(2,[1,6,7,8]),(1,[5]),(0,[4])] Proofs.Tryz.f15
def MV:TFn:=tl [((.agg [.i .i64,.i .i64,.i .i64,.i .i64,.i .i64,.i .i64,.i .i64,.i .i64,.i .i64,.i .i64,.i .i64,.i .i64]),0,[27]),(z4,0,[32,33,35,37])] [(0,52887901),(2,52887900)] [28,41,51,4,8] [(16,[54]),(15,[6,28,5003,44,5009]),(14,[8,38,43]),(13,[8,38,5004]),(12,[34,5003]),(11,[31,32,33]),(9,[5,18,5009]),(7,[16,17]),(5,[1,12]),(4,[1,12,13,14]),(3,[10,11]),(1,[9]),(0,[0]),(999999,[1])] Proofs.Tryz.f11
def MW:TC:=dT MV 52887900
def RL:TC:=dT MV 52887901
def U2:TFn:=tl [(zI,0,[21,25,100005]),((.agg [.d]),0,[26,100002]),((.agg [.i .i64,.i .i64,.i .i64,.i .i64,.i .i64,.i .i64,.i .i64,.i .i64,.i .i64,.i .i64,.i .i64,.i .i64,.i .i64,.i .i64,.i .i64,.i .i64,.i .i64,.i .i64,.i .i64,.i .i64]),0,[27,100003]),(zE,0,[30,100007])] [] [1000002] [(8,[7,22,26,5004]),(7,[7,22,5003]),(6,[21]),(5,[19,20]),(4,[0,6,12,16,17,18]),(3,[0,6,12,5003]),(2,[11]),(1,[8,9,10]),(0,[4])] Proofs.Tryz.f5
def RM:TFn:=tl [(zK,0,[6,10,15,19,25,28,35,42,44,50,55,61,67,74,82,91]),(zI,0,[36,37,47,48,64,65,69,70,76,77,84,85,93,94])] [(0,94526800)] [1] [(14,[98]),(13,[98]),(12,[1,3,4,57,97]),(8,[58,59]),(11,[87,5009]),(10,[1,3,4,87]),(9,[57,60,5026]),(7,[53,5003]),(5,[52]),(4,[1,52]),(3,[13,5038]),(2,[1,13]),(1,[5,5007]),(0,[0,2])] Proofs.Tryz.f61
def RN:TC:=dT RM 94526800
def MX:TFn:=tl [(zE,0,[6,11,16,21,27,34,41,47,53]),(zK,0,[29,30,36,37,49,51,54,56])] [(0,6981300),(2,6981301)] [1] [(15,[1,4,43]),(12,[44,45,57]),(14,[1,4,57]),(13,[43,46,5010]),(11,[39,5003]),(10,[3,23]),(7,[24,25,32]),(9,[1,3,32,5006]),(8,[23,26,5005]),(6,[19,5003]),(5,[18]),(4,[1,18]),(3,[14,5003]),(2,[1,14]),(1,[5,5008]),(0,[0,2])] Proofs.Tryz.f35
def RO:TC:=dT MX 6981300
def RP:TC:=dT MX 6981301
def U3:TFn:=tl [(zE,0,[10])] [] [1] [(6,[12]),(5,[12]),(4,[1,3,7,9,10,11]),(3,[1,3,7,8]),(2,[6]),(1,[4,5]),(0,[0,2])] Proofs.Tryz.f17
def U4:TFn:=tl [] [] [2] [(1,[0,3,4])] Proofs.Tryz.f36
def RQ:TFn:=tl [(zK,0,[7,14,19,25]),(zI,0,[16,17,22,23,27,28])] [(0,21661800)] [1] [(6,[1,3,4,9,32]),(4,[10,11]),(5,[9,12,5019]),(3,[5,5003]),(0,[0,2])] Proofs.Tryz.f37
def RR:TC:=dT RQ 21661800
def U5:TFn:=tl [] [] [] [(3,[0,4,10,11]),(2,[0,4,5005]),(1,[3]),(0,[2])] Proofs.Tryz.f67
def RT:TFn:=tl [] [(0,16774900)] [] [(3,[0,1,6,11]),(2,[6,5004]),(1,[5]),(0,[4])] Proofs.Tryz.f95
def RU:TC:=dT RT 16774900
def U6:TFn:=tl [(z2,0,[4,8,13,18,23,26])] [] [1] [(3,[30]),(2,[30]),(1,[1,3,5026]),(0,[0,2])] Proofs.Tryz.f69
def U7:TFn:=tl [] [] [2,3] [(3,[2,3,7,10,11]),(2,[2,3,7,8,9]),(1,[5,6]),(0,[0,1,4])] Proofs.Tryz.f44
def U8:TFn:=tl [] [] [4] [(5,[5,7,9,10,11,35,5014]),(4,[6,26,5008]),(3,[8,20,5005]),(2,[1,16,5003]),(1,[0,12,5003])] Proofs.Tryz.f66
def U9:TFn:=tl [((.agg [.i .u64,.i .u64]),0,[10,14,19,24,29,32]),(z2,0,[37,100039])] [] [4,5,6,8] [(6,[8,35,40]),(5,[35,5004]),(4,[0]),(3,[4,5,26,28,5006]),(2,[0,4,5,26,27]),(1,[9,5016]),(0,[1,2,7])] Proofs.Tryz.f96
def V0:TFn:=tl [(z2,0,[17,20,24,27,31,34,39,44,48,53,59,64])] [] [2,3,4] [(4,[2,3,6,7,30,5041]),(3,[11,16,5013]),(2,[2,3,11,5004]),(1,[8,9,10]),(0,[0,1,5])] Proofs.Tryz.f63
def V1:TFn:=tl [((.agg [.d,.d,.i .i64]),0,[12,100025])] [] [4,6,7] [(5,[7,26]),(4,[0,8,22,5003]),(3,[2,4,13,15,5006]),(2,[0,2,4,13,14]),(1,[9,5003]),(0,[1])] Proofs.Tryz.f39
def V2:TFn:=tl [(zE,0,[10])] [] [2] [(1,[1,2,5,5008]),(0,[0,4])] Proofs.Tryz.f116
def V3:TFn:=tl [((.agg [.i .u64,.i .u64]),0,[6,8,12,14,18,20])] [] [2,3] [(1,[2,3,5,5018]),(0,[0,1,4])] Proofs.Tryz.f68
def V4:TFn:=tl [(z2,0,[8,11,15,18,21,25,28,32])] [] [2,3,5,6] [(6,[5,6,33,37,38,39]),(5,[5,6,33,5003]),(4,[2,31,32]),(3,[3,13,17,5013]),(2,[2,3,13,5003]),(1,[7,5005]),(0,[0,1,4])] Proofs.Tryz.f43
def V5:TFn:=tl [(z2,0,[10])] [] [3] [(1,[0,3,5,5014]),(0,[1,4])] Proofs.Tryz.f138
def V6:TFn:=tl [] [] [2,3,4] [(3,[2,3,7,9]),(2,[2,3,7,8]),(1,[5,6]),(0,[0,1])] Proofs.Tryz.f140
def V7:TFn:=tl [] [] [2,3,4] [(3,[2,3,7,9]),(2,[2,3,7,8]),(1,[5,6]),(0,[0,1])] Proofs.Tryz.f142
def V8:TFn:=tl [(z2,0,[4,100006])] [] [1,2] [(2,[1,7]),(1,[3,5003]),(0,[0])] Proofs.Tryz.f98
def V9:TFn:=tl [((.agg [.i .u64,.i .u64]),0,[8,10,13,15,19])] [] [2,3,4] [(5,[5,6,20,23,24,25]),(4,[20,21,22]),(3,[2,17,18,19]),(2,[3,12,5004]),(1,[7,5004]),(0,[0,1])] Proofs.Tryz.f119
def W0:TFn:=tl [((.agg [.i .u64,.i .u64]),0,[7,9,12,14,20,22])] [] [2,3,4] [(4,[2,3,5,15,18,5006]),(3,[15,16,17]),(2,[11,5003]),(1,[6,5004]),(0,[0,1])] Proofs.Tryz.f120
def RW:TFn:=tl [((.agg [.i .u64,.i .u64]),0,[15,23,42,100044])] [(0,22549700)] [2,4,6] [(14,[1,2,6,7,8,11,45,46]),(5,[12,13,37]),(13,[41,5003]),(12,[37,5003]),(11,[35,36]),(10,[32,33,34]),(9,[9,21,28,5003]),(8,[21,5006]),(7,[20]),(6,[11,14,5005]),(4,[10]),(0,[0,5])] Proofs.Tryz.f121
def RX:TC:=dT RW 22549700
def W5:TFn:=tl [(z2,0,[25,28,32,35,41,44,50,56,59,72,96,101])] [] [2,3,4,7,8,10,11,14] [(17,[2,3,6,9,13,14,93,5015]),(16,[10,15,87,5005]),(15,[12,84,85,86]),(14,[11,76,78,5005]),(13,[2,3,6,9,10,76,77]),(12,[7,8,61,67,74,75]),(11,[71,72,73]),(10,[7,8,9,67,5003]),(9,[65,66]),(8,[61,5003]),(7,[55,5005]),(6,[52,53,54]),(5,[49,50,51]),(4,[31,5017]),(3,[19,24,5006]),(2,[2,3,19,5004]),(1,[16,17,18]),(0,[0,1,5])] Proofs.Tryz.f97
def W6:TFn:=tl [] [] [2,3,4] [(3,[2,3,9,14,5005]),(2,[2,3,9,5004]),(1,[6,7,8]),(0,[0,1,5])] Proofs.Tryz.f65
def W7:TFn:=tl [(zK,0,[16,24,37,56]),(zI,0,[18,19,27,28,39,40,58,59])] [] [4,6,7,8,10,11,12] [(7,[1,4,12,13,51,54,5009]),(6,[1,4,12,13,51,52,53]),(5,[50]),(4,[10,11,42,44,5005]),(3,[1,4,10,11,42,43]),(2,[31,5010]),(1,[6,7,14,5016]),(0,[0,2,3,9])] Proofs.Tryz.f139
def RY:TFn:=tl [(zK,0,[19,25,39])] [(0,92446900)] [3,4,5,6,8,10] [(15,[3,4,5,8,9,41,66]),(8,[11,42,43,63]),(14,[3,4,5,8,9,11,63,64,65]),(13,[62]),(12,[10,53,56,5005]),(11,[3,4,5,8,5003,53,54,55]),(10,[52]),(9,[41,44,5007]),(7,[37,5003]),(5,[34,36]),(4,[3,4,5,34,35]),(3,[14,18,5015]),(2,[3,4,5,14,5003]),(1,[12,13]),(0,[0,1,2,7])] Proofs.Tryz.f134
def RZ:TC:=dT RY 92446900
def W8:TFn:=tl [(z2,0,[16,20,22,25,28,31])] [] [2,3,4,6] [(8,[2,3,6,26,34,5004]),(7,[3,26,5007]),(6,[24,25]),(5,[17,19,5004]),(4,[2,3,17,18]),(3,[10,15,16]),(2,[2,3,10,5004]),(1,[7,8,9]),(0,[0,1,5])] Proofs.Tryz.f141
def Sa:TFn:=tl [(zK,0,[22,40,51,63,91]),(z2,0,[33,45,120]),(zI,0,[54,55,65,66,93,94])] [(0,63725400)] [3,4,5,6,8,10,11,13] [(26,[4,121,123]),(25,[4,121,122]),(24,[3,5,8,9,47,119,120]),(8,[48,49]),(23,[10,12,115,118]),(22,[3,4,5,8,9,10,12,115,116,117]),(21,[114]),(20,[11,87,108,5005]),(19,[8,13,14,100,103,5004]),(18,[8,13,14,100,101,102]),(17,[99]),(16,[3,4,5,9,10,11,87,5011]),(15,[12,81,84,85,86]),(14,[3,4,5,8,5004,81,82,83]),(13,[80]),(12,[68,72,5007]),(11,[10,68,5003]),(10,[57,5010]),(9,[47,50,5006]),(7,[38,5008]),(5,[35,37]),(4,[3,4,5,35,36]),(3,[17,21,5013]),(2,[3,4,5,17,5003]),(1,[15,16]),(0,[0,1,2,7])] Proofs.Tryz.f135
def Sb:TC:=dT Sa 63725400
def W9:TFn:=tl [((.agg [.i .i64,.i .u8,.i .i64,.i .i64,.i .i64,.i .i64,.i .i64,.i .i64]),0,[7,11,15,17,23,27,29]),(zK,0,[12,13,24,25])] [] [3,4] [(3,[0,3,8,21,5011]),(2,[0,3,8,5012]),(1,[6,7]),(0,[1,5])] Proofs.Tryz.f117
def X2:TFn:=tl [(zK,0,[4,7,11])] [] [5,9,1,2] [(1,[1,3,5010]),(0,[0])] Proofs.Tryz.f136
def Sc:TFn:=tl [(zK,0,[14,15])] [(0,44560800)] [17] [(6,[0,3,4,8,19]),(4,[9,10]),(5,[8,11,5007]),(3,[5,6,7]),(0,[2])] Proofs.Tryz.f118
def Sd:TC:=dT Sc 44560800
def X4:TFn:=tl [((.agg [.i .i64,.i .u8,.i .i64,.i .i64,.i .i64,.i .i64,.i .i64,.i .i64]),0,[18,100042]),(zE,0,[25,36,44,48])] [] [46,51,2,3,4,5,7] [(11,[2,3,7,43,5011]),(10,[38,41,42]),(9,[2,3,7,38,39,40]),(8,[8,31,35,36,37]),(7,[2,3,7,8,31,5003]),(6,[30]),(5,[20,23,5006]),(4,[2,3,20,21,22]),(3,[11,16,5003]),(2,[2,3,11,5004]),(1,[9,10]),(0,[0,1,6])] Proofs.Tryz.f94
def X5:TFn:=tl [] [] [4,6,7,8,9] [(1,[1,4,6,7,11,5008]),(0,[0,2,3,10])] Proofs.Tryz.f62
def X6:TFn:=tl [((.agg [.d,.d,.i .i64]),0,[15,22,100035,100037])] [] [6,7,8,9,10] [(5,[10,38]),(4,[0,9,11,30,5007]),(3,[1,6,7,16,18,5011]),(2,[0,1,6,7,16,17]),(1,[12,5003]),(0,[2,3])] Proofs.Tryz.f38
def X7:TFn:=tl [] [] [4,6,7,8,9] [(1,[1,4,6,7,11,5008]),(0,[0,2,3,10])] Proofs.Tryz.f64
def X8:TFn:=tl [((.agg [.d,.d,.i .i64]),0,[13,20,100035,100037]),(z4,0,[23,25])] [] [5,6,7,8] [(5,[8,38]),(4,[0,7,9,30,5007]),(3,[1,5,14,16,5013]),(2,[0,1,5,14,15]),(1,[10,5003]),(0,[2])] Proofs.Tryz.f40
def X9:TFn:=tl [((.agg [.d,.d,.i .i64]),0,[12,100024])] [] [4,5,6,7] [(5,[7,25]),(4,[0,8,21,5003]),(3,[4,5,13,15,5005]),(2,[0,4,5,13,14]),(1,[9,5003]),(0,[1,2])] Proofs.Tryz.f41
def Se:TFn:=tl [((.agg [.b,.b,.b]),0,[13]),((.agg [.i .i64,.i .i64,.i .i64,.i .i64,.i .i64,.i .i64]),0,[21,24])] [(0,68799000)] [2,3] [(7,[2,3,5,6,8,29]),(4,[9,10,27]),(6,[27,28]),(5,[8,11,5015]),(3,[7]),(0,[0,1,4])] Proofs.Tryz.f42
def Sf:TC:=dT Se 68799000
def nC:Opd:=.t 10
def Si:Opd:=.t 135
def Sj:Opd:=.t 136
def Sk:Opd:=.t 138
def Sl:Opd:=.t 139
def xE:TC:=(.ops [M 135 11,M 136 13,O 137 (.iadA 3 2 nC Sj),oT 138 2 137,O 139 (.iadA 3 2 nC Si),zS 2 Sl Sk] [⟨3,(.agg [.i .i64,.i .i64,.i .i64,.i .i64,.i .i64,.i .i64]),0⟩,⟨5,(.agg [.i .i64,.i .i64,.i .i64,.i .i64,.i .i64,.i .i64]),0⟩] [] [11,13,135,136,137,138,139])
def t9:Opd:=.t 9
def Sm:Opd:=.t 130
def Sn:Opd:=.t 131
def So:Opd:=.t 132
def Sq:Opd:=.t 133
def Sr:Opd:=.t 134
def yZ:TC:=(zQ (.ops [M 130 11,oT 131 2 14,O 132 (.fad 0 t9),O 133 (.iadA 3 4 So Sm),O 134 (.fad 0 Sq),zS 2 Sr Sn] [⟨5,(.agg [.i .i64,.i .i64,.i .i64,.i .i64,.i .i64,.i .i64,.i .i64,.i .i64,.i .i64,.i .i64,.i .i64,.i .i64,.i .i64,.i .i64,.i .i64,.i .i64,.i .i64,.i .i64,.i .i64,.i .i64]),0⟩] [] [14,130,131,132,133,134]) (.join 33428450 xE))
def Il:Opd:=.t 120
def Im:Opd:=.t 121
def Io:Opd:=.t 122
def Ip:Opd:=.t 123
def Ss:Opd:=.t 124
def Su:Opd:=.t 126
def Sv:Opd:=.t 127
def Sw:Opd:=.t 128
def Sx:Opd:=.t 129
abbrev J4 (t:Type):Type:=Int→Int→Int→Int→t
abbrev aS (t:Type):Type:=J4 (J4 (J4 (J4 t)))
@[match_pattern] abbrev ic (n:Int):PV:=.int .i64 n
def gz (n:Nat):PV:=.agg (replicate n (.int .i64 0))
abbrev gi2:Sh:=.agg [.i .i64,.i .i64]
abbrev gi4:Sh:=.agg [.i .i64,.i .i64,.i .i64,.i .i64]
def ga (l:List Int):PV:=.agg (l.map (.int .i64))
def Ba:TC:=(zQ (.ops [M 120 11,O 121 (.fad 12 t9),zS 1 Im Il] [⟨2,(.agg [.i .i64,.i .i64,.i .i64,.i .i64,.i .i64,.i .i64,.i .i64,.i .i64,.i .i64,.i .i64,.i .i64,.i .i64,.i .i64,.i .i64,.i .i64,.i .i64,.i .i64,.i .i64,.i .i64,.i .i64]),0⟩] [] [120,121]) (zQ (.ops [M 122 11,O 123 (.fad 0 t9),O 124 (.iadA 3 4 Ip Io),O 125 (.fad 0 Ss),oT 126 2 125,oT 127 2 14,O 128 (.build [(ic (0)),(ic (0)),(ic (0)),(ic (0))] [(0,2,Su),(2,2,Sv)]),O 129 (.fad 13 t9),zS 4 Sx Sw] [⟨4,(.agg [.i .i64,.i .i64,.i .i64,.i .i64,.i .i64,.i .i64,.i .i64,.i .i64,.i .i64,.i .i64,.i .i64,.i .i64,.i .i64,.i .i64,.i .i64,.i .i64,.i .i64,.i .i64,.i .i64,.i .i64]),0⟩,⟨8,(.agg [.i .i64,.i .i64,.i .i64,.i .i64,.i .i64,.i .i64,.i .i64,.i .i64,.i .i64,.i .i64,.i .i64,.i .i64,.i .i64,.i .i64,.i .i64,.i .i64,.i .i64,.i .i64,.i .i64,.i .i64]),0⟩] [(0,1),(0,5),(1,5),(2,5),(3,5),(4,5)] (zR 122 8)) (.join 33428451 yZ)))
def MY:Opd:=.t 14
def Sy:Opd:=.t 104
def Iq:Opd:=.t 105
def Ir:Opd:=.t 106
def Is:Opd:=.t 107
def It:Opd:=.t 108
def Iu:Opd:=.t 110
def Iv:Opd:=.t 111
def Sz:Opd:=.t 112
def Iw:Opd:=.t 114
def SA:Opd:=.t 115
def Ix:Opd:=.t 117
def SB:Opd:=.t 118
def Iy:Opd:=.t 119
def CG:TC:=(zC Sy (zQ (.ops [M 105 0,M 106 11,O 107 (.fad 0 t9),O 108 (.iadA 3 4 Is Ir),O 109 (.fad 0 It),oT 110 2 109,M 111 0,M 112 11,O 113 (.iadA 3 2 nC Sz),oT 114 2 113,M 115 13,O 116 (.iadA 3 2 nC SA),oT 117 2 116,O 118 (.call (.f CF) [Iv,Iw,Ix]),O 119 (.call (.f xD) [Iq,(I 1),Iu,SB]),O 14 (.aL (gz 2)),zS 2 MY Iy] [⟨5,(.agg [.i .i64,.i .i64,.i .i64,.i .i64,.i .i64,.i .i64,.i .i64,.i .i64,.i .i64,.i .i64,.i .i64,.i .i64,.i .i64,.i .i64,.i .i64,.i .i64,.i .i64,.i .i64,.i .i64,.i .i64]),0⟩,⟨9,(.agg [.i .i64,.i .i64,.i .i64,.i .i64,.i .i64,.i .i64]),0⟩,⟨12,(.agg [.i .i64,.i .i64,.i .i64,.i .i64,.i .i64,.i .i64]),0⟩] [(0,1),(0,2),(1,2),(0,3),(0,4),(0,5),(0,6),(1,6),(2,6),(3,6),(4,6),(5,6),(0,7),(1,7),(2,7),(3,7),(4,7),(5,7),(6,7),(0,8),(1,8),(2,8),(3,8),(4,8),(5,8),(6,8),(0,9),(1,9),(2,9),(3,9),(4,9),(5,9),(6,9),(0,10),(1,10),(2,10),(3,10),(4,10),(5,10),(6,10),(7,10),(8,10),(9,10),(0,11),(1,11),(2,11),(3,11),(4,11),(5,11),(6,11),(7,11),(8,11),(9,11),(0,12),(1,12),(2,12),(3,12),(4,12),(5,12),(6,12),(7,12),(8,12),(9,12),(0,13),(1,13),(2,13),(3,13),(4,13),(5,13),(0,15),(1,15),(2,15),(3,15),(4,15),(5,15),(6,15),(7,15),(8,15),(9,15),(10,15),(11,15),(12,15),(13,15),(14,15)] (zR 104 16)) (.join 33428452 Ba)) .skip)
def SC:Opd:=.t 180
def SD:Opd:=.t 182
def SF:Opd:=.t 183
def SG:Opd:=.t 184
def tO:TC:=(zC SC (.ops [O 181 (.fad 12 t9),oF 182 1 181,O 183 (.fad 17 t9),O 184 (.iadA 3 1 SF (I 1)),zS 1 SG SD] [⟨1,(.agg [.i .i64,.i .i64,.i .i64,.i .i64,.i .i64,.i .i64,.i .i64,.i .i64,.i .i64,.i .i64,.i .i64,.i .i64,.i .i64,.i .i64,.i .i64,.i .i64,.i .i64,.i .i64,.i .i64,.i .i64]),0⟩,⟨4,(.agg [.i .i64,.i .i64,.i .i64,.i .i64,.i .i64,.i .i64,.i .i64,.i .i64,.i .i64,.i .i64,.i .i64,.i .i64,.i .i64,.i .i64,.i .i64,.i .i64,.i .i64,.i .i64,.i .i64,.i .i64]),0⟩] [] (zR 180 5)) .skip)
def t2:Opd:=.t 2
def SH:Opd:=.t 185
def SI:Opd:=.t 187
def SJ:Opd:=.t 189
def SK:Opd:=.t 192
def SL:Opd:=.t 193
def SM:Opd:=.t 194
def SN:Opd:=.t 195
def tP:TC:=(zQ (.ops [O 185 (.fad 17 t9),O 186 (.iadA 3 1 SH (I 1)),oF 187 1 186,O 188 (.bin .sub (I 3) SI),O 189 (.fad 17 t9),O 190 (.iadA 3 1 SJ (I 2)),oF 191 1 190,oX 192 .sub 188 191,O 193 (.fad 17 t9),O 194 (.iadA 3 1 SL (I 0)),zS 1 SM SK] [⟨2,(.agg [.i .i64,.i .i64,.i .i64,.i .i64,.i .i64,.i .i64,.i .i64,.i .i64,.i .i64,.i .i64,.i .i64,.i .i64,.i .i64,.i .i64,.i .i64,.i .i64,.i .i64,.i .i64,.i .i64,.i .i64]),0⟩,⟨6,(.agg [.i .i64,.i .i64,.i .i64,.i .i64,.i .i64,.i .i64,.i .i64,.i .i64,.i .i64,.i .i64,.i .i64,.i .i64,.i .i64,.i .i64,.i .i64,.i .i64,.i .i64,.i .i64,.i .i64,.i .i64]),0⟩,⟨10,(.agg [.i .i64,.i .i64,.i .i64,.i .i64,.i .i64,.i .i64,.i .i64,.i .i64,.i .i64,.i .i64,.i .i64,.i .i64,.i .i64,.i .i64,.i .i64,.i .i64,.i .i64,.i .i64,.i .i64,.i .i64]),0⟩] [] [180,185,186,187,188,189,190,191,192,193,194]) (zQ (oQ [oT 195 20 9,zS 20 t2 SN] [9,195]) .ret))
def t12:Opd:=.t 12
def SO:Opd:=.t 172
def SP:Opd:=.t 174
def SQ:Opd:=.t 175
def SR:Opd:=.t 176
def SS:Opd:=.t 177
def ST:Opd:=.t 178
def SU:Opd:=.t 179
def vG:TC:=(zQ (zQ (.ops [O 171 (.fad 12 t9),oF 172 1 171,O 173 (.bin .geq SO (I 0)),M 174 173,zT 175 174 (.fad 12 t9),zT 176 174 (.load false 1 SQ),zT 177 174 (.iadA 3 1 t12 SR),zT 178 174 (.load false 1 SS),zT 179 174 (.un .not ST),O 180 (.pick SP SU (.c (.bool false)))] [⟨1,(.agg [.i .i64,.i .i64,.i .i64,.i .i64,.i .i64,.i .i64,.i .i64,.i .i64,.i .i64,.i .i64,.i .i64,.i .i64,.i .i64,.i .i64,.i .i64,.i .i64,.i .i64,.i .i64,.i .i64,.i .i64]),0⟩,⟨5,(.agg [.i .i64,.i .i64,.i .i64,.i .i64,.i .i64,.i .i64,.i .i64,.i .i64,.i .i64,.i .i64,.i .i64,.i .i64,.i .i64,.i .i64,.i .i64,.i .i64,.i .i64,.i .i64,.i .i64,.i .i64]),0⟩,⟨7,(.agg [.b,.b,.b]),0⟩] [] [12,171,172,173,174,175,176,177,178,179]) (.join 33428454 tO)) (.join 33428455 tP))
def SV:Opd:=.t 166
def SW:Opd:=.t 167
def SX:Opd:=.t 168
def SY:Opd:=.t 169
def SZ:Opd:=.t 170
def xF:TC:=(zQ (.ops [oT 166 6 10,oT 167 3 12,O 168 (.call (.f vC) [SV,SW]),O 169 (.fad 17 t9),O 170 (.iadA 3 1 SY (I 1)),zS 1 SZ SX] [⟨5,(.agg [.i .i64,.i .i64,.i .i64,.i .i64,.i .i64,.i .i64,.i .i64,.i .i64,.i .i64,.i .i64,.i .i64,.i .i64,.i .i64,.i .i64,.i .i64,.i .i64,.i .i64,.i .i64,.i .i64,.i .i64]),0⟩] [] [10,166,167,168,169,170]) (.join 33428456 vG))
def Ta:Opd:=.t 161
def Tb:Opd:=.t 162
def Tc:Opd:=.t 164
def Td:Opd:=.t 165
def zA:TC:=(zQ (oQ [O 161 (.build [(.bool false),(.bool false),(.bool false)] []),zS 3 t12 Ta] [161]) (zQ (.ops [O 162 (.fad 17 t9),O 163 (.iadA 3 1 Tb (I 2)),oF 164 1 163,O 165 (.iadA 3 1 t12 Tc),zS 1 Td (.c (.bool true))] [⟨2,(.agg [.i .i64,.i .i64,.i .i64,.i .i64,.i .i64,.i .i64,.i .i64,.i .i64,.i .i64,.i .i64,.i .i64,.i .i64,.i .i64,.i .i64,.i .i64,.i .i64,.i .i64,.i .i64,.i .i64,.i .i64]),0⟩,⟨4,(.agg [.b,.b,.b]),0⟩] [] (zR 162 4)) (.join 33428457 xF)))
def Te:Opd:=.t 156
def Tf:Opd:=.t 157
def Tg:Opd:=.t 158
def Th:Opd:=.t 159
def Ti:Opd:=.t 160
def Bb:TC:=(zQ (.ops [oT 156 6 15,O 157 (.build [(.bool false),(.bool false),(.bool false)] []),O 158 (.call (.f vC) [Te,Tf]),O 159 (.fad 17 t9),O 160 (.iadA 3 1 Th (I 2)),zS 1 Ti Tg] [⟨5,(.agg [.i .i64,.i .i64,.i .i64,.i .i64,.i .i64,.i .i64,.i .i64,.i .i64,.i .i64,.i .i64,.i .i64,.i .i64,.i .i64,.i .i64,.i .i64,.i .i64,.i .i64,.i .i64,.i .i64,.i .i64]),0⟩] [] [15,156,157,158,159,160]) (.join 33428458 zA))
def t15:Opd:=.t 15
def Tj:Opd:=.t 140
def Tk:Opd:=.t 141
def Tl:Opd:=.t 143
def Tm:Opd:=.t 144
def Tn:Opd:=.t 145
def To:Opd:=.t 146
def Tp:Opd:=.t 148
def Tq:Opd:=.t 149
def Tr:Opd:=.t 150
def Ts:Opd:=.t 151
def Tt:Opd:=.t 153
def Tv:Opd:=.t 154
def Tw:Opd:=.t 155
def CH:TC:=(zQ (.ops [M 140 0,O 141 (.fad 0 t9),O 142 (.iadA 3 4 Tk (I 0)),oT 143 4 142,O 144 (.call (.f pM) [Tj,(I 2),Tl]),M 145 0,O 146 (.fad 0 t9),O 147 (.iadA 3 4 To (I 1)),oT 148 4 147,O 149 (.call (.f pM) [Tn,(I 2),Tp]),M 150 0,O 151 (.fad 0 t9),O 152 (.iadA 3 4 Ts (I 2)),oT 153 4 152,O 154 (.call (.f pM) [Tr,(I 2),Tt]),O 155 (.build [(ic (0)),(ic (0)),(ic (0)),(ic (0)),(ic (0)),(ic (0))] [(0,2,Tm),(2,2,Tq),(4,2,Tv)]),O 15 (.aL (gz 6)),zS 6 t15 Tw] [⟨3,(.agg [.i .i64,.i .i64,.i .i64,.i .i64,.i .i64,.i .i64,.i .i64,.i .i64,.i .i64,.i .i64,.i .i64,.i .i64,.i .i64,.i .i64,.i .i64,.i .i64,.i .i64,.i .i64,.i .i64,.i .i64]),0⟩,⟨8,(.agg [.i .i64,.i .i64,.i .i64,.i .i64,.i .i64,.i .i64,.i .i64,.i .i64,.i .i64,.i .i64,.i .i64,.i .i64,.i .i64,.i .i64,.i .i64,.i .i64,.i .i64,.i .i64,.i .i64,.i .i64]),0⟩,⟨13,(.agg [.i .i64,.i .i64,.i .i64,.i .i64,.i .i64,.i .i64,.i .i64,.i .i64,.i .i64,.i .i64,.i .i64,.i .i64,.i .i64,.i .i64,.i .i64,.i .i64,.i .i64,.i .i64,.i .i64,.i .i64]),0⟩] [(0,1),(0,2),(0,3),(0,5),(1,5),(2,5),(3,5),(4,5),(0,6),(1,6),(2,6),(3,6),(4,6),(5,6),(0,7),(1,7),(2,7),(3,7),(4,7),(5,7),(0,8),(1,8),(2,8),(3,8),(4,8),(5,8),(0,10),(1,10),(2,10),(3,10),(4,10),(5,10),(6,10),(7,10),(8,10),(9,10),(0,11),(1,11),(2,11),(3,11),(4,11),(5,11),(6,11),(7,11),(8,11),(9,11),(10,11),(0,12),(1,12),(2,12),(3,12),(4,12),(5,12),(6,12),(7,12),(8,12),(9,12),(10,12),(0,13),(1,13),(2,13),(3,13),(4,13),(5,13),(6,13),(7,13),(8,13),(9,13),(10,13),(0,16),(1,16),(2,16),(3,16),(4,16),(5,16),(6,16),(7,16),(8,16),(9,16),(10,16),(11,16),(12,16),(13,16),(14,16),(15,16)] [0,11,13,104,140,141,142,143,144,145,146,147,148,149,150,151,152,153,154,155]) (.join 33428459 Bb))
def Y3:Opd:=.t 95
def Y4:Opd:=.t 96
def t98:Opd:=.t 98
def Iz:Opd:=.t 100
def IA:Opd:=.t 101
def IB:Opd:=.t 103
def Fm:TC:=(zQ (oQ [oT 95 6 10,oT 96 3 12,O 97 (.call (.f vC) [Y3,Y4]),M 13 97] [95,96,97]) (zQ (zQ (.ops [M 98 13,O 99 (.iadA 3 2 nC t98),oT 100 2 99,M 101 11,O 102 (.iadA 3 2 nC IA),oT 103 2 102,O 104 (.call (.f oP) [Iz,IB])] [⟨2,(.agg [.i .i64,.i .i64,.i .i64,.i .i64,.i .i64,.i .i64]),0⟩,⟨5,(.agg [.i .i64,.i .i64,.i .i64,.i .i64,.i .i64,.i .i64]),0⟩] [(0,3),(1,3),(2,3),(0,4),(1,4),(2,4),(0,5),(1,5),(2,5)] (zR 98 6)) (.join 33428453 CG)) (.join 33428460 CH)))
def Y5:Opd:=.t 89
def Y6:Opd:=.t 90
def t92:Opd:=.t 92
def Y7:Opd:=.t 93
def Y8:Opd:=.t 94
def IC:TC:=(zQ (oQ [oT 89 6 10,O 90 (.build [(.bool false),(.bool false),(.bool false)] []),O 91 (.call (.f vC) [Y5,Y6]),M 11 91] [89,90,91]) (zQ (oQ [O 92 (.build [(.bool false),(.bool false),(.bool false)] []),O 12 (.aL (.agg [(.bool false),(.bool false),(.bool false)])),zS 3 t12 t92] [92]) (zQ (.ops [M 93 11,O 94 (.iadA 3 1 t12 Y7),zS 1 Y8 (.c (.bool true))] [⟨2,(.agg [.b,.b,.b]),0⟩] [] [93,94]) (.join 33428461 Fm))))
def Y9:Opd:=.t 79
def t80:Opd:=.t 80
def Z0:Opd:=.t 81
def Z1:Opd:=.t 83
def Z2:Opd:=.t 84
def Z3:Opd:=.t 86
def t87:Opd:=.t 87
def Z4:Opd:=.t 88
def MZ:TC:=(zQ (.ops [M 79 0,M 80 0,oT 81 2 6,O 82 (.iadA 3 2 nC (I 0)),oT 83 2 82,O 84 (.call (.f CF) [t80,Z0,Z1]),O 85 (.iadA 3 2 nC (I 1)),oT 86 2 85,O 87 (.call (.f CF) [Y9,Z2,Z3]),O 88 (.iadA 3 2 nC (I 2)),zS 2 Z4 t87] [⟨4,(.agg [.i .i64,.i .i64,.i .i64,.i .i64,.i .i64,.i .i64]),0⟩,⟨7,(.agg [.i .i64,.i .i64,.i .i64,.i .i64,.i .i64,.i .i64]),0⟩,⟨10,(.agg [.i .i64,.i .i64,.i .i64,.i .i64,.i .i64,.i .i64]),0⟩] [(0,1),(0,2),(1,2),(0,3),(1,3),(2,3),(0,4),(1,4),(2,4),(0,5),(0,6),(1,6),(2,6),(3,6),(4,6),(5,6),(0,7),(1,7),(2,7),(3,7),(4,7),(5,7)] [6,79,80,81,82,83,84,85,86,87,88]) (.join 33428462 IC))
def t3:Opd:=.t 3
def t4:Opd:=.t 4
def t5:Opd:=.t 5
def t6:Opd:=.t 6
def t7:Opd:=.t 7
def t8:Opd:=.t 8
def t16:Opd:=.t 16
def ID:Opd:=.t 17
def Z5:Opd:=.t 18
def t19:Opd:=.t 19
def t21:Opd:=.t 21
def t22:Opd:=.t 22
def Z6:Opd:=.t 24
def Z7:Opd:=.t 25
def t26:Opd:=.t 26
def Z8:Opd:=.t 27
def Z9:Opd:=.t 28
def aa:Opd:=.t 30
def t32:Opd:=.t 32
def ae:Opd:=.t 33
def af:Opd:=.t 34
def ag:Opd:=.t 35
def ah:Opd:=.t 36
def ai:Opd:=.t 37
def aj:Opd:=.t 39
def t41:Opd:=.t 41
def ak:Opd:=.t 42
def al:Opd:=.t 43
def am:Opd:=.t 44
def ap:Opd:=.t 45
def aq:Opd:=.t 46
def ar:Opd:=.t 47
def t48:Opd:=.t 48
def au:Opd:=.t 49
def aw:Opd:=.t 50
def ay:Opd:=.t 51
def be:Opd:=.t 52
def bf:Opd:=.t 53
def bg:Opd:=.t 54
def bh:Opd:=.t 55
def bi:Opd:=.t 56
def t57:Opd:=.t 57
def bj:Opd:=.t 58
def bm:Opd:=.t 59
def bo:Opd:=.t 60
def bq:Opd:=.t 61
def br:Opd:=.t 62
def t63:Opd:=.t 63
def bu:Opd:=.t 64
def bv:Opd:=.t 65
def bw:Opd:=.t 66
def bz:Opd:=.t 67
def t68:Opd:=.t 68
def cm:Opd:=.t 70
def co:Opd:=.t 71
def cp:Opd:=.t 72
def t73:Opd:=.t 73
def cq:Opd:=.t 75
def cr:Opd:=.t 76
def ct:Opd:=.t 77
def cu:Opd:=.t 78
def Tx:TFn:=⟨1,[.cell 2 true 20],(zQ (oQ [O 2 (.aL (gz 20))] []) (zQ (.ops [O 16 (.call (.f rR) [(I 0)]),M 17 0,O 18 (.nilchk ID),O 19 (.fad 0 Z5),O 20 (.fad 0 t19),oF 21 1 20,O 22 (.iad 3 t21 (I 0)),O 23 (.fad 0 t22),oF 24 1 23,O 25 (.call (.f rR) [Z6]),O 3 (.aL (gz 2)),O 4 (.aL (gz 2)),zS 2 t3 t16,zS 2 t4 Z7] [⟨5,(.agg [.d,.d,.i .i64]),0⟩,⟨6,zK,0⟩,⟨8,zK,0⟩] [(0,1),(0,2),(0,3),(0,4),(0,5),(0,6),(0,7),(0,8),(0,10),(1,10),(2,10),(3,10),(4,10),(5,10),(6,10),(7,10),(8,10),(9,10),(0,11),(1,11),(2,11),(3,11),(4,11),(5,11),(6,11),(7,11),(8,11),(9,11),(10,11)] (zR 16 10)) (zQ (.ops [M 26 0,O 27 (.nilchk t26),O 28 (.fad 0 Z8),O 29 (.fad 0 Z9),oF 30 1 29,O 31 (.iad 3 aa (I 0)),oT 32 3 31,O 33 (.call (.f Fe) [t32]),O 34 (.call (.f rR) [ae]),M 35 0,O 36 (.nilchk ag),O 37 (.fad 0 ah),O 38 (.fad 0 ai),oF 39 1 38,O 40 (.iad 3 aj (I 1)),oT 41 3 40,O 42 (.call (.f Fe) [t41]),O 43 (.call (.f rR) [ak]),O 5 (.aL (gz 2)),O 6 (.aL (gz 2)),zS 2 t5 af,zS 2 t6 al] [⟨4,(.agg [.d,.d,.i .i64]),0⟩,⟨5,zK,0⟩,⟨6,zK,0⟩,⟨13,(.agg [.d,.d,.i .i64]),0⟩,⟨14,zK,0⟩,⟨15,zK,0⟩] [(0,9),(1,9),(2,9),(3,9),(4,9),(5,9),(6,9),(7,9),(8,9),(0,10),(1,10),(2,10),(3,10),(4,10),(5,10),(6,10),(7,10),(8,10),(0,11),(1,11),(2,11),(3,11),(4,11),(5,11),(6,11),(7,11),(8,11),(0,12),(1,12),(2,12),(3,12),(4,12),(5,12),(6,12),(7,12),(8,12),(0,13),(1,13),(2,13),(3,13),(4,13),(5,13),(6,13),(7,13),(8,13),(0,14),(1,14),(2,14),(3,14),(4,14),(5,14),(6,14),(7,14),(8,14),(0,15),(1,15),(2,15),(3,15),(4,15),(5,15),(6,15),(7,15),(8,15),(0,18),(1,18),(2,18),(3,18),(4,18),(5,18),(6,18),(7,18),(8,18),(9,18),(10,18),(11,18),(12,18),(13,18),(14,18),(15,18),(16,18),(17,18),(0,19),(1,19),(2,19),(3,19),(4,19),(5,19),(6,19),(7,19),(8,19),(9,19),(10,19),(11,19),(12,19),(13,19),(14,19),(15,19),(16,19),(17,19),(18,19)] (zR 26 18)) (zQ (.ops [M 44 0,oT 45 2 3,M 46 0,oT 47 2 5,O 48 (.call (.f yY) [aq,ar,(I 1)]),O 49 (.call (.f xD) [am,(I 0),ap,t48]),O 7 (.aL (gz 2)),zS 2 t7 au] [] [(0,1),(0,2),(1,2),(0,3),(1,3),(2,3),(0,4),(1,4),(0,6),(1,6),(2,6),(3,6),(4,6),(5,6)] (zR 44 6)) (zQ (.ops [M 50 0,oT 51 2 3,M 52 0,oT 53 2 5,O 54 (.call (.f yY) [be,bf,(I 2)]),O 55 (.call (.f xD) [aw,(I 0),ay,bg]),O 8 (.aL (gz 2)),zS 2 t8 bh] [] [(0,1),(0,2),(1,2),(0,3),(1,3),(2,3),(0,4),(1,4),(0,6),(1,6),(2,6),(3,6),(4,6),(5,6)] [5,50,51,52,53,54,55]) (zQ (oQ [oT 56 2 3,oT 57 2 7,O 58 (.build [(ic (0)),(ic (0)),(ic (0)),(ic (0))] [(0,2,bi),(2,2,t57)]),oT 59 2 7,oT 60 2 8,O 61 (.build [(ic (0)),(ic (0)),(ic (0)),(ic (0))] [(0,2,bm),(2,2,bo)]),oT 62 2 8,oT 63 2 4,O 64 (.build [(ic (0)),(ic (0)),(ic (0)),(ic (0))] [(0,2,br),(2,2,t63)]),O 65 (.build [(ic (0)),(ic (0)),(ic (0)),(ic (0)),(ic (0)),(ic (0)),(ic (0)),(ic (0)),(ic (0)),(ic (0)),(ic (0)),(ic (0))] [(0,4,bj),(4,4,bq),(8,4,bu)]),O 66 (.build [(ic (0)),(ic (0)),(ic (0)),(ic (0)),(ic (0)),(ic (0)),(ic (0)),(ic (0)),(ic (0)),(ic (0)),(ic (0)),(ic (0)),(ic (0)),(ic (0)),(ic (0)),(ic (0)),(ic (0)),(ic (0)),(ic (0)),(ic (0))] [(0,12,bv),(12,1,(I (-1)))]),O 9 (.aL (gz 20)),zS 20 t9 bw] [4,7,8,56,57,58,59,60,61,62,63,64,65,66]) (zQ (.ops [M 67 0,O 68 (.fad 0 t9),O 69 (.iadA 3 4 t68 (I 0)),oT 70 4 69,O 71 (.call (.f pM) [bz,(I 1),cm]),M 72 0,O 73 (.fad 0 t9),O 74 (.iadA 3 4 t73 (I 1)),oT 75 4 74,O 76 (.call (.f pM) [cp,(I 1),cq]),oT 77 2 3,O 78 (.build [(ic (0)),(ic (0)),(ic (0)),(ic (0)),(ic (0)),(ic (0))] [(0,2,co),(2,2,cr),(4,2,ct)]),O 10 (.aL (gz 6)),zS 6 nC cu] [⟨3,(.agg [.i .i64,.i .i64,.i .i64,.i .i64,.i .i64,.i .i64,.i .i64,.i .i64,.i .i64,.i .i64,.i .i64,.i .i64,.i .i64,.i .i64,.i .i64,.i .i64,.i .i64,.i .i64,.i .i64,.i .i64]),0⟩,⟨8,(.agg [.i .i64,.i .i64,.i .i64,.i .i64,.i .i64,.i .i64,.i .i64,.i .i64,.i .i64,.i .i64,.i .i64,.i .i64,.i .i64,.i .i64,.i .i64,.i .i64,.i .i64,.i .i64,.i .i64,.i .i64]),0⟩] [(0,1),(0,2),(0,3),(0,5),(1,5),(2,5),(3,5),(4,5),(0,6),(1,6),(2,6),(3,6),(4,6),(5,6),(0,7),(1,7),(2,7),(3,7),(4,7),(5,7),(0,8),(1,8),(2,8),(3,8),(4,8),(5,8),(0,10),(1,10),(2,10),(3,10),(4,10),(5,10),(6,10),(7,10),(8,10),(9,10),(0,12),(1,12),(2,12),(3,12),(4,12),(5,12),(6,12),(7,12),(8,12),(9,12),(10,12),(11,12)] [3,67,68,69,70,71,72,73,74,75,76,77,78]) (.join 33428463 MZ))))))))⟩
def t85:Opd:=.t 85
def t91:Opd:=.t 91
def t97:Opd:=.t 97
def t99:Opd:=.t 99
def CI:TC:=(zQ (zQ (oQ [M 84 15,O 85 (.bin .lss Z2 (I 3))] [84]) (zC t85 .skip (.exit 0))) (zQ (zB 1 (zQ (.ops [M 88 15,O 89 (.call (.f rR) [(I 0)]),O 90 (.iadA 3 2 MY Z4),zS 2 Y6 Y5] [⟨3,(.agg [.i .i64,.i .i64,.i .i64,.i .i64,.i .i64,.i .i64]),0⟩] [] [85,88,89,90]) (zQ (.ops [M 91 15,O 92 (.iadA 3 1 t12 t91),oF 93 1 92,O 94 (.un .not Y7)] [⟨2,(.agg [.b,.b,.b]),0⟩] [] [91,92,93]) (zC Y8 (.ops [M 95 15,M 96 0,M 97 15,O 98 (.iadA 3 4 nC t97),oT 99 4 98,O 100 (.call (.f pM) [Y4,(I 0),t99]),O 101 (.iadA 3 2 MY Y3),zS 2 IA Iz] [⟨4,(.agg [.i .i64,.i .i64,.i .i64,.i .i64,.i .i64,.i .i64,.i .i64,.i .i64,.i .i64,.i .i64,.i .i64,.i .i64]),0⟩,⟨7,(.agg [.i .i64,.i .i64,.i .i64,.i .i64,.i .i64,.i .i64]),0⟩] [] (zR 94 8)) .skip)))) (oQ [M 86 15,O 87 (.bin .add Z3 (I 1)),M 15 87] [86,87,94])))
def Ty:Opd:=.t 102
def Tz:Opd:=.t 113
def Fo:TC:=(zQ (oQ [O 83 (.build [(ic (0)),(ic (0)),(ic (0)),(ic (0)),(ic (0)),(ic (0))] []),O 14 (.aL (gz 6)),zS 6 MY Z1] [83]) (zQ (zQ (oQ [O 15 (.mv (I 0))] []) (zB 0 (.loop 87262900 CI))) (zQ (oQ [oT 102 6 14,oT 103 3 12,O 104 (.call (.f vC) [Ty,IB]),M 16 104] [0,12,14,15,85,102,103,104]) (zQ (oQ [O 105 (.build [(ic (0)),(ic (0)),(ic (0)),(ic (0)),(ic (0)),(ic (0)),(ic (0)),(ic (0)),(ic (0)),(ic (0)),(ic (0)),(ic (0))] []),O 17 (.aL (gz 12)),zS 12 ID Iq] [105]) (zQ (.ops [M 106 5,M 107 6,M 108 13,O 109 (.iadA 3 4 nC It),oT 110 4 109,M 111 16,O 112 (.iadA 3 4 nC Iv),oT 113 4 112,M 114 13,O 115 (.bin .sub (I 3) Iw),M 116 16,oX 117 .sub 115 116,O 118 (.iadA 3 4 nC Ix),oT 119 4 118,O 120 (.iadA 3 4 ID Ir),zS 4 Il Iu,O 121 (.iadA 3 4 ID (I 0)),zS 4 Im Tz,O 122 (.iadA 3 4 ID Is),zS 4 Io Iy] [⟨4,(.agg [.i .i64,.i .i64,.i .i64,.i .i64,.i .i64,.i .i64,.i .i64,.i .i64,.i .i64,.i .i64,.i .i64,.i .i64]),0⟩,⟨7,(.agg [.i .i64,.i .i64,.i .i64,.i .i64,.i .i64,.i .i64,.i .i64,.i .i64,.i .i64,.i .i64,.i .i64,.i .i64]),0⟩,⟨13,(.agg [.i .i64,.i .i64,.i .i64,.i .i64,.i .i64,.i .i64,.i .i64,.i .i64,.i .i64,.i .i64,.i .i64,.i .i64]),0⟩,⟨15,(.agg [.i .i64,.i .i64,.i .i64,.i .i64,.i .i64,.i .i64,.i .i64,.i .i64,.i .i64,.i .i64,.i .i64,.i .i64]),0⟩,⟨17,(.agg [.i .i64,.i .i64,.i .i64,.i .i64,.i .i64,.i .i64,.i .i64,.i .i64,.i .i64,.i .i64,.i .i64,.i .i64]),0⟩,⟨19,(.agg [.i .i64,.i .i64,.i .i64,.i .i64,.i .i64,.i .i64,.i .i64,.i .i64,.i .i64,.i .i64,.i .i64,.i .i64]),0⟩] [(0,1),(0,2),(1,2),(0,3),(1,3),(0,4),(1,4),(0,5),(1,5),(2,5),(3,5),(4,5),(0,6),(1,6),(2,6),(3,6),(4,6),(0,7),(1,7),(2,7),(3,7),(4,7),(0,8),(1,8),(2,8),(3,8),(4,8),(5,8),(6,8),(7,8),(0,9),(1,9),(2,9),(3,9),(4,9),(5,9),(6,9),(7,9),(0,10),(1,10),(2,10),(3,10),(4,10),(5,10),(6,10),(7,10),(8,10),(9,10),(0,11),(1,11),(2,11),(3,11),(4,11),(5,11),(6,11),(7,11),(0,12),(1,12),(2,12),(3,12),(4,12),(5,12),(6,12),(7,12),(0,13),(1,13),(2,13),(3,13),(4,13),(5,13),(6,13),(7,13),(1,14),(5,14),(6,14),(7,14),(8,14),(9,14),(10,14),(11,14),(12,14),(13,14),(1,15),(5,15),(6,15),(7,15),(8,15),(9,15),(10,15),(11,15),(12,15),(13,15),(1,16),(8,16),(9,16),(10,16),(11,16),(12,16),(13,16),(1,17),(8,17),(9,17),(10,17),(11,17),(12,17),(13,17)] [5,6,10,13,16,106,107,108,109,110,111,112,113,114,115,116,117,118,119,120,121,122]) (zQ (oQ [oT 123 12 17,zS 12 t4 Ip] [17,123]) .ret))))))
def t82:Opd:=.t 82
def IE:TC:=(zQ (oQ [O 77 (.build [(.bool false),(.bool false),(.bool false)] []),O 12 (.aL (.agg [(.bool false),(.bool false),(.bool false)])),zS 3 t12 ct] [77]) (zQ (oQ [oT 78 6 11,oT 79 3 12,O 80 (.call (.f vC) [cu,Y9]),M 13 80] [11,78,79,80]) (zQ (.ops [M 81 13,O 82 (.iadA 3 1 t12 Z0),zS 1 t82 (.c (.bool true))] [⟨2,(.agg [.b,.b,.b]),0⟩] [] [81,82]) (.join 87262950 Fo))))
def t11:Opd:=.t 11
def t29:Opd:=.t 29
def t31:Opd:=.t 31
def t38:Opd:=.t 38
def t40:Opd:=.t 40
def t69:Opd:=.t 69
def t74:Opd:=.t 74
def Na:TC:=(zQ (.ops [M 24 0,M 25 6,O 26 (.fad 13 t3),oT 27 4 26,O 28 (.call (.f pM) [Z6,Z7,Z8]),O 7 (.aL (gz 2)),zS 2 t7 Z9] [⟨3,(.agg [.i .i64,.i .i64,.i .i64,.i .i64,.i .i64,.i .i64,.i .i64,.i .i64,.i .i64,.i .i64,.i .i64,.i .i64,.i .i64,.i .i64,.i .i64,.i .i64,.i .i64,.i .i64,.i .i64,.i .i64]),0⟩] [] (zR 23 6)) (zQ (.ops [M 29 0,M 30 6,O 31 (.fad 13 t3),O 32 (.fad 0 t31),oT 33 2 32,M 34 0,oT 35 2 7,O 36 (.call (.f yY) [af,ag,(I 1)]),O 37 (.call (.f xD) [t29,aa,ae,ah]),O 8 (.aL (gz 2)),zS 2 t8 ai] [⟨4,(.agg [.i .i64,.i .i64,.i .i64,.i .i64,.i .i64,.i .i64,.i .i64,.i .i64,.i .i64,.i .i64,.i .i64,.i .i64,.i .i64,.i .i64,.i .i64,.i .i64,.i .i64,.i .i64,.i .i64,.i .i64]),0⟩] [(0,1),(0,2),(1,2),(0,3),(1,3),(0,4),(1,4),(0,5),(1,5),(2,5),(3,5),(4,5),(0,6),(1,6),(2,6),(3,6),(4,6),(5,6),(0,7),(1,7),(2,7),(3,7),(4,7),(0,9),(1,9),(2,9),(3,9),(4,9),(5,9),(6,9),(7,9),(8,9)] (zR 29 9)) (zQ (.ops [M 38 0,M 39 6,O 40 (.fad 13 t3),O 41 (.fad 0 t40),oT 42 2 41,M 43 0,oT 44 2 7,O 45 (.call (.f yY) [al,am,(I 2)]),O 46 (.call (.f xD) [t38,aj,ak,ap]),O 9 (.aL (gz 2)),zS 2 t9 aq] [⟨4,(.agg [.i .i64,.i .i64,.i .i64,.i .i64,.i .i64,.i .i64,.i .i64,.i .i64,.i .i64,.i .i64,.i .i64,.i .i64,.i .i64,.i .i64,.i .i64,.i .i64,.i .i64,.i .i64,.i .i64,.i .i64]),0⟩] [(0,1),(0,2),(1,2),(0,3),(1,3),(0,4),(1,4),(0,5),(1,5),(2,5),(3,5),(4,5),(0,6),(1,6),(2,6),(3,6),(4,6),(5,6),(0,7),(1,7),(2,7),(3,7),(4,7),(0,9),(1,9),(2,9),(3,9),(4,9),(5,9),(6,9),(7,9),(8,9)] [7,38,39,40,41,42,43,44,45,46]) (zQ (.ops [O 47 (.fad 13 t3),O 48 (.fad 0 ar),oT 49 2 48,oT 50 2 8,O 51 (.build [(ic (0)),(ic (0)),(ic (0)),(ic (0))] [(0,2,au),(2,2,aw)]),oT 52 2 8,oT 53 2 9,O 54 (.build [(ic (0)),(ic (0)),(ic (0)),(ic (0))] [(0,2,be),(2,2,bf)]),oT 55 2 9,O 56 (.fad 13 t3),O 57 (.fad 2 bi),oT 58 2 57,O 59 (.build [(ic (0)),(ic (0)),(ic (0)),(ic (0))] [(0,2,bh),(2,2,bj)]),O 60 (.build [(ic (0)),(ic (0)),(ic (0)),(ic (0)),(ic (0)),(ic (0)),(ic (0)),(ic (0)),(ic (0)),(ic (0)),(ic (0)),(ic (0))] [(0,4,ay),(4,4,bg),(8,4,bm)]),O 10 (.aL (gz 12)),zS 12 nC bo] [⟨2,(.agg [.i .i64,.i .i64,.i .i64,.i .i64,.i .i64,.i .i64,.i .i64,.i .i64,.i .i64,.i .i64,.i .i64,.i .i64,.i .i64,.i .i64,.i .i64,.i .i64,.i .i64,.i .i64,.i .i64,.i .i64]),0⟩,⟨11,(.agg [.i .i64,.i .i64,.i .i64,.i .i64,.i .i64,.i .i64,.i .i64,.i .i64,.i .i64,.i .i64,.i .i64,.i .i64,.i .i64,.i .i64,.i .i64,.i .i64,.i .i64,.i .i64,.i .i64,.i .i64]),0⟩] [] [3,8,9,47,48,49,50,51,52,53,54,55,56,57,58,59,60]) (zQ (.ops [M 61 0,M 62 5,O 63 (.iadA 3 4 nC (I 0)),oT 64 4 63,O 65 (.call (.f pM) [bq,br,bu]),M 66 0,M 67 5,O 68 (.iadA 3 4 nC (I 1)),oT 69 4 68,O 70 (.call (.f pM) [bw,bz,t69]),M 71 0,M 72 5,O 73 (.iadA 3 4 nC (I 2)),oT 74 4 73,O 75 (.call (.f pM) [co,cp,t74]),O 76 (.build [(ic (0)),(ic (0)),(ic (0)),(ic (0)),(ic (0)),(ic (0))] [(0,2,bv),(2,2,cm),(4,2,cq)]),O 11 (.aL (gz 6)),zS 6 t11 cr] [⟨3,(.agg [.i .i64,.i .i64,.i .i64,.i .i64,.i .i64,.i .i64,.i .i64,.i .i64,.i .i64,.i .i64,.i .i64,.i .i64]),0⟩,⟨8,(.agg [.i .i64,.i .i64,.i .i64,.i .i64,.i .i64,.i .i64,.i .i64,.i .i64,.i .i64,.i .i64,.i .i64,.i .i64]),0⟩,⟨13,(.agg [.i .i64,.i .i64,.i .i64,.i .i64,.i .i64,.i .i64,.i .i64,.i .i64,.i .i64,.i .i64,.i .i64,.i .i64]),0⟩] [(0,1),(0,2),(1,2),(0,3),(1,3),(0,5),(1,5),(2,5),(3,5),(4,5),(0,6),(1,6),(2,6),(3,6),(4,6),(5,6),(0,7),(1,7),(2,7),(3,7),(4,7),(5,7),(6,7),(0,8),(1,8),(2,8),(3,8),(4,8),(5,8),(6,8),(0,10),(1,10),(2,10),(3,10),(4,10),(5,10),(6,10),(7,10),(8,10),(9,10),(0,11),(1,11),(2,11),(3,11),(4,11),(5,11),(6,11),(7,11),(8,11),(9,11),(10,11),(0,12),(1,12),(2,12),(3,12),(4,12),(5,12),(6,12),(7,12),(8,12),(9,12),(10,12),(11,12),(0,13),(1,13),(2,13),(3,13),(4,13),(5,13),(6,13),(7,13),(8,13),(9,13),(10,13),(11,13),(0,16),(1,16),(2,16),(3,16),(4,16),(5,16),(6,16),(7,16),(8,16),(9,16),(10,16),(11,16),(12,16),(13,16),(14,16),(15,16)] (zR 61 16)) (.join 87262951 IE))))))
def t1:Opd:=.t 1
def t23:Opd:=.t 23
def TA:TFn:=⟨2,[.cell 4 true 12],(zQ (oQ [O 3 (.boxL t1),O 4 (.aL (gz 12))] [1]) (zQ (oQ [O 5 (.mv (I 1)),O 6 (.mv (I 2))] []) (zQ (zQ (.ops [O 18 (.fad 17 t3),O 19 (.iadA 3 1 Z5 (I 2)),oF 20 1 19,O 21 (.fad 12 t3),oF 22 1 21,oX 23 .eql 20 22] [⟨2,(.agg [.i .i64,.i .i64,.i .i64,.i .i64,.i .i64,.i .i64,.i .i64,.i .i64,.i .i64,.i .i64,.i .i64,.i .i64,.i .i64,.i .i64,.i .i64,.i .i64,.i .i64,.i .i64,.i .i64,.i .i64]),0⟩,⟨4,(.agg [.i .i64,.i .i64,.i .i64,.i .i64,.i .i64,.i .i64,.i .i64,.i .i64,.i .i64,.i .i64,.i .i64,.i .i64,.i .i64,.i .i64,.i .i64,.i .i64,.i .i64,.i .i64,.i .i64,.i .i64]),0⟩] [] (zR 18 5)) (zC t23 (oQ [O 5 (.mv (I 2)),O 6 (.mv (I 1))] [23]) .skip)) (.join 87262952 Na))))⟩
def cw:TFn:=tl [(z4,0,[4,6,11,13])] [] [1] [(1,[1,3,5012]),(0,[0,2])] Proofs.Tryz.f20
def Nb:TFn:=tl [(z2,0,[15,16,32,33,37,38,50,51,55,56,57,58,100057,100058])] [(0,33442700),(2,33442701)] [22,3] [(11,[0,6,40,59]),(9,[41,42]),(10,[40,43,5015]),(8,[27,5012]),(7,[24,25,26]),(6,[3,5,10,20,5003]),(3,[11,12,18]),(5,[0,3,5,18,19]),(4,[10,13,5004]),(2,[7,8,9]),(0,[1,4])] Proofs.Tryz.f99
def TB:TC:=dT Nb 33442700
def TD:TC:=dT Nb 33442701
def Nc:TFn:=tl [(z4,0,[17,19,23,25,36,38,42,44])] [(0,95913400),(2,95913401)] [] [(10,[1,5,7,30,46]),(8,[31,32]),(9,[30,33,5012]),(7,[27,28,29]),(6,[0,6,11]),(4,[12,13]),(5,[11,14,5012]),(3,[8,9,10]),(0,[4])] Proofs.Tryz.f70
def TE:TC:=dT Nc 95913400
def TF:TC:=dT Nc 95913401
def TG:TFn:=tl [(z4,0,[15,17,24,26])] [(0,81840800)] [3] [(6,[0,3,5,9]),(3,[10,11,28]),(5,[0,3,5,28]),(4,[9,12,5015]),(2,[6,7,8]),(0,[1,4])] Proofs.Tryz.f71
def TH:TC:=dT TG 81840800
def TI:TFn:=tl [(z2,0,[26,27,32,33,67,68,78,79,85,86,90,91]),(z4,0,[62,64,80,100081])] [(0,37905300)] [93] [(16,[0,1,2,7,8,9,20,95]),(5,[21,22,53]),(15,[70,82,5012]),(14,[70,5011]),(13,[53,5016]),(12,[10,11,12,46,52]),(11,[10,11,46,5005]),(10,[40,45]),(9,[40,5004]),(8,[39]),(7,[35,5003]),(6,[20,23,5011]),(4,[16,5003]),(1,[13,14,15]),(0,[6])] Proofs.Tryz.f45
def TJ:TC:=dT TI 37905300
def TK:TFn:=tl [(z4,0,[16,17])] [(0,78184200)] [] [(8,[0,4,11,20,21]),(5,[12,13,19]),(7,[0,4,19]),(6,[11,14,5004]),(4,[8,9,10]),(3,[7]),(2,[0,7]),(1,[5,6]),(0,[2,3])] Proofs.Tryz.f21
def TL:TC:=dT TK 78184200
def TM:TFn:=tl [((.agg [.d,.d,.i .i64]),0,[27,37,42,90,100006]),((.agg [.i .i64,.i .i64,.i .i64,.i .i64,.i .i64,.i .i64,.i .i64,.i .i64,.i .i64,.i .i64,.i .i64,.i .i64,.i .i64,.i .i64,.i .i64,.i .i64,.i .i64,.i .i64,.i .i64,.i .i64]),0,[31,52,55,61,64]),((.agg [.i .i64,.i .i64,.i .i64,.i .i64,.i .i64,.i .i64,.i .i64,.i .i64,.i .i64,.i .i64,.i .i64,.i .i64]),0,[69,74]),((.agg [.d]),0,[79]),(zD,0,[85,100085])] [(0,45031100)] [65,75,2,3,7,8,9] [(20,[6,5004,46,86,5004]),(13,[47,48]),(19,[11,70,77,5008]),(18,[70,5006]),(17,[56,67,68,69]),(16,[56,5010]),(15,[49,5006]),(14,[46]),(12,[45]),(10,[38,43,44]),(9,[6,7,8,38,5004]),(8,[33,36,37]),(7,[33,34,35]),(6,[26,5006]),(5,[25]),(4,[24]),(3,[0,15,21,22,23]),(2,[0,15,5005]),(1,[12,13,14]),(0,[4,5]),(999999,[1])] Proofs.Tryz.f6
def TN:TC:=dT TM 45031100
def TO:TFn:=tl [(z4,0,[19,20,23,24])] [(0,27088800)] [] [(8,[0,1,5,14]),(5,[15,16,25]),(7,[0,1,5,25]),(6,[14,17,5007]),(4,[11,12,13]),(3,[10]),(2,[0,1,10]),(1,[6,5003]),(0,[4])] Proofs.Tryz.f22
def TP:TC:=dT TO 27088800
def TQ:TFn:=tl [((.agg [.d]),0,[7,10,15,21,26]),(zD,0,[23,24,28,29])] [(0,70742100)] [2,3] [(8,[2,3,5,17]),(5,[18,19,31]),(7,[2,3,5,31]),(6,[17,20,5010]),(4,[13,5003]),(3,[12]),(2,[2,3,12]),(1,[6,5005]),(0,[0,1,4])] Proofs.Tryz.f7
def TR:TC:=dT TQ 70742100
def TS:TFn:=tl [((.agg [.i .i64,.i .u8,.i .i64,.i .i64,.i .i64,.i .i64,.i .i64,.i .i64]),0,[19,20,23,24])] [(0,11728400)] [] [(8,[0,1,5,14]),(5,[15,16,25]),(7,[0,1,5,25]),(6,[14,17,5007]),(4,[11,12,13]),(3,[10]),(2,[0,1,10]),(1,[6,5003]),(0,[4])] Proofs.Tryz.f8
def TT:TC:=dT TS 11728400
def dc:TFn:=tl [] [] [3,4,7,8] [(5,[3,5007,27,5017]),(4,[0,20,5006]),(3,[12,5007]),(2,[0,12]),(1,[11]),(0,[2])] Proofs.Tryz.f3
def tab:List (Nat×AFn):=[(LT,P2.fn),(LU,QX.fn),(LW,QZ.fn),(LX,Rb.fn),(AU,Rd.fn),(Cq,MS.fn),(HN,P4.fn),(QQ,yOT.fn),(EV,P5.fn),(EW,P6.fn),(LY,Rh.fn),(LZ,P7.fn),(Ma,P8.fn),(HO,P9.fn),(Cr,Q0.fn),(EX,Rj.fn),(Ct,Q1.fn),(Mb,Rl.fn),(AV,Q2.fn),(EY,Q3.fn),(HP,Q4.fn),(AW,Q5.fn),(yX,Q6.fn),(Cu,Q7.fn),(Mc,Q8.fn),(Md,Q9.fn),(Me,R0.fn),(Mf,R1.fn),(Mg,Rn.fn),(Cv,R2.fn),(Cw,R3.fn),(EZ,R4.fn),(Mh,R5.fn),(Mi,R6.fn),(HQ,MT.fn),(Mj,R7.fn),(Cz,R8.fn),(AX,R9.fn),(HR,S0.fn),(HS,Rr.fn),(O6,Rs.fn),(Mk,S2.fn),(Ml,S4.fn),(HT,yMV.fn),(HU,Ru.fn),(QS,Rw.fn),(Mm,S5.fn),(Fa,S6.fn),(CA,S7.fn),(Mn,Rx.fn),(Mo,S8.fn),(CB,S9.fn),(QT,MU.fn),(CC,Rz.fn),(O7,RB.fn),(CD,RE.fn),(HV,T1.fn),(HW,T3.fn),(Mp,T4.fn),(Mq,RG.fn),(Mr,yCm.fn),(O8,ySF.fn),(O9,yTt.fn),(ygw,RI.fn),(yiQ,T5.fn),(HX,yzv.fn),(HY,T6.fn),(Fb,T7.fn),(Ms,RJ.fn),(HZ,T8.fn),(Ia,T9.fn),(P0,MV.fn),(Mt,U2.fn),(Fd,RM.fn),(Ib,MX.fn),(Mu,U3.fn),(rR,U4.fn),(Fe,RQ.fn),(CE,U5.fn),(Ff,RT.fn),(Fg,U6.fn),(AY,U7.fn),(Fh,U8.fn),(Ic,U9.fn),(Fi,V0.fn),(yY,V1.fn),(Mv,V2.fn),(Id,V3.fn),(oP,V4.fn),(Ie,V5.fn),(Ig,V6.fn),(Mw,V7.fn),(Mx,V8.fn),(Ih,V9.fn),(My,W0.fn),(Mz,RW.fn),(Fj,W5.fn),(Fk,W6.fn),(Ii,W7.fn),(MA,RY.fn),(MB,W8.fn),(MC,Sa.fn),(MD,W9.fn),(ME,X2.fn),(MF,Sc.fn),(Ij,X4.fn),(MG,X5.fn),(xD,X6.fn),(MH,X7.fn),(pM,X8.fn),(CF,X9.fn),(vC,Se.fn),(MI,Tx.fn),(MJ,TA.fn),(Ik,cw.fn),(P1,Nb.fn),(MK,Nc.fn),(ML,TG.fn),(MM,TI.fn),(MN,TK.fn),(MO,TM.fn),(MP,TO.fn),(MQ,TQ.fn),(MR,TS.fn),(QU,dc.fn)]
def CJ:List Nat:=[LT,LU,LW,LX,AU,Cq,HN,EV,EW,LY,LZ,Ma,Cr,EX,Ct,Mb,AV,EY,HP,AW,yX,Cu,Mc,Md,Me,Mf,Mg,Cv,Cw,EZ,Cx,Cy,Mh,Mi,HQ,Mj,Cz,AX,HR,Mk,Ml,HT,HU,Mm,Mn,Mo,CB,CC,CD,Mp,Mq,O8,O9,HY,Fb,Ms,HZ,Ia,Mt,Fd,Ib,Mu,rR,Fe,CE,Ff,Fg,AY,Fh,Ic,Fi,Mv,Id,oP,Ie,Ig,Mw,Mx,Ih,My,Mz,Fj,Fk,Ii,MA,MB,MC,MD,ME,MF,Ij,MG,MH,vC,Ik,MK,ML,MM,MN,MO,MP,MQ,MR,QU,(Fa+5000000),(CA+5000000),(HO+5000000),(HV+5000000),(HW+5000000),(yY+5000000),(xD+5000000),(pM+5000000),(CF+5000000),(MI+5000000),(MJ+5000000),(QQ+6000000)]
def zG:nB:=[(HT,1,8)]
def IF:List (Nat×PV):=[]
def E (ef:Es):Env:=(tL Cx Cy tab CJ zG IF ef)
def E0C:Env:=tK Cx Cy tab CJ zG IF
abbrev mQ:Srts:=qO HX Fb
def dd:List Nat:=[HX,Mr]
abbrev EG (e:Es):Prop:=EffG E dd e
theorem fQ:EG []:=⟨fun _ _ _ _ h=>(by cases h),fun _ _ _ _=>rfl⟩
def gI:Es:=[(HX,HJ mQ.s mQ.srt),(Mr,QN Mr 4 32)]
theorem bO {e:Es} (he:EG e) {P:EP} {S:SE} {d n:Nat} {t:TFn} {s:Sg} {w:s.W} (hq:bN S d t s w) (hS:SEOk P S) (hR:bA P S.E (uQ S d) t.body) (hl:LpOk P S.E S.lp [] t.body) (hE:S.E=E e:=by rfl) (hs:HH Cx Cy zG n=false:=by kernel_rfl) (hm:memN dd n=false:=by kernel_rfl) (hf:S.E.fns n=some t.fn:=by kernel_rfl) (hu:S.E.qui n=true:=by kernel_rfl) (hn:S.E.nl n=false:=by kernel_rfl):∀ az K,s.pw w az K→∃ r,K r∧jZ P n az r:=okW hq hS hR hl (fun _=>by rw [hE];exact rO hs _) (by rw [hE];exact he.num _ hm) hf hu hn
theorem kM:EG gI:=⟨yN6 (by kernel_rfl),fun n h xs H=>O5 (l:=gI) h⟩
abbrev Fp:Type:=Ls→(Ls→Prop)→Prop
def IG (p0:Ls) (K:Ls→Prop):Prop:=N6 1 8 p0 K
def yws (w:Ls→(Ls→Prop)→Prop) (az:Ls) (K:PV→Prop):Prop:=QL w az K
def ywt (az:Ls) (K:PV→Prop):Prop:=yDr 1 8 az K
theorem ywu (e:Es) (_:EG e):bM (E e) ywt HT:=yN7 (by kernel_rfl) (by kernel_rfl) (by kernel_rfl)
abbrev df:Type:=Int→Int→Int→(Int→Int→Prop)→Prop
abbrev dg:Type:=Int→Int→Int→(Int→Int→Prop)→Prop
theorem yLC (e:Es) (_:EG e):bM (E e) yvE Cx:=yN8
theorem yLD (e:Es) (_:EG e):bM (E e) yvG Cy:=yN9 (by kernel_rfl)
set_option maxRecDepth 100000
abbrev gY:Type:=Int→(Int→Prop)→Prop
def TU (b:Int) (K:Int→Prop):Prop:=
 (aA (decide (b<0)) (K (u64.wrap (0-(u64.wrap b)))) (K (u64.wrap b)))
def CL:gY:=TU
def bL:gH:=vI i64
def pt1:jN:=lC bL lN
def tQ:Sg:=⟨pt1,Int→Prop,fun K=>(fun r0=>K (.int .u64 r0))⟩
def yEU (e:Es):SE:=sE (E e) [] cG
theorem yEV (e:Es):bN (yEU e) 6 Q0 tQ TU:=fun _ _=>by kernel_rfl
theorem Nd (e:Es) (he:EG e):bM (E e) (tQ.pw CL) Cr:=bO he (yEV e) (bK (aK.uni _) trivial trivial he.ok) bA.flat (aZ (by kernel_rfl))
abbrev eJ:Type:=Int→Int→(Int→Prop)→Prop
def II (x0:Int→Int→Bool→Prop):Nat→Int→Int→Prop
 | 0,_,_=>False
 | n+1,b,c=>
 (aA (decide (c>0)) (aB (!(decide (c=0))) (II x0 n c (Int.tmod b c))) (x0 b c false))
def TV (b c:Int) (K:Int→Prop):Prop:=
 (∃ n:Nat,II (fun d _ _=>(K d)) n b c)
def vH:eJ:=TV
def pt2:gH:=vI u64
def Nf:jN:=lC pt2 lN
def rS:jN:=lC pt2 Nf
def xG:Sg:=⟨rS,Int→Prop,fun K=>(fun r0=>K (.int .u64 r0))⟩
def yBv (Q:Qx):Int→Int→Bool→Prop:=(fun b c d=>Q (.exit 0) [(0,.v (.int .u64 b)),(1,.v (.int .u64 c)),(6,.v (.bool d))] [])
def dh:Pat rQ:=pS hN (fV 0 pt2 (fV 1 pt2 fN)) fN
def di (Q:Qx):List St:=[⟨dh,II (yBv Q)⟩]
def dj:LP:=fG [(32725300,di)]
def TW (e:Es):SE:=sE (E e) [] (dj)
theorem dl (e:Es) (he:EG e):SEOk (bC (E e)) (TW e):=bK (aK.uni _) trivial trivial he.ok
theorem yzB (e:Es):eC (TW e) 5 a Rk false (di):=fun _=>⟨fun _=>by kernel_rfl,fun _ _=>by kernel_rfl,trivial⟩
theorem yzC (e:Es) (he:EG e):cQ (bC (E e)) (dj) [] 32725300 (.loop 32725300 Rk):=fun _ _ _=>bU.st (aK.uni _) (cL (dl e he) 5) (cF.no _ _) (aZ (by kernel_rfl)) (yzB e _)
theorem yHm (e:Es):bN (TW e) 6 Rj xG TV:=fun _ _=>by kernel_rfl
theorem TX (e:Es) (he:EG e):bM (E e) (xG.pw vH) EX:=bO he (yHm e) (dl e he) bA.flat (cZ (l:=[(32725300,.loop 32725300 Rk)]) ⟨yzC e he,trivial⟩ (by kernel_rfl))
def TY (a0:gY) (a1:eJ) (b c:Int) (K:Int→Prop):Prop:=
 (aA (decide (c<1)) (K 8) (a0 b (fun d=>(aA (decide ((if (u64.wrap c)>d then (u64.wrap c) else d)>1000000000000000000)) (K 8) (a0 b (fun e=>(a1 e (u64.wrap c) (fun f=>(aA (decide (f>1)) (K 8) (K 0))))))))))
def rT:eJ:=TY CL vH
def IJ:jN:=lC bL pt1
def nQ:gH:=vA IJ
def Fq:jN:=lC nQ lN
def vJ:Sg:=⟨Fq,Int→Prop,fun K=>(fun r0=>K (ic r0))⟩
def yDD (e:Es) (a0:gY) (a1:eJ):SE:=sE (E e) [(Cr,tQ.pw a0),(EX,xG.pw a1)] cG
theorem yDE (e:Es) (a0 a1):bN (yDD e a0 a1) 6 Q1 vJ (TY a0 a1):=fun _ _=>by kernel_rfl
theorem IK (e:Es) (he:EG e):bM (E e) (vJ.pw rT) Ct:=bO he (yDE e _ _) (bK (aK.uni _) ⟨(Nd e he),(TX e he),trivial⟩ trivial he.ok) bA.flat (aZ (by kernel_rfl))
abbrev oR:Type:=Ls→(Int→Prop)→Prop
def Fr (x0:Int→Prop) (x1:Int→Ls→Int→Int→Bool→Prop):Nat→Int→Ls→Int→Int→Prop
 | 0,_,_,_,_=>False
 | n+1,b,c,d,e=>
 (aA (decide (e<d)) (aB (decide (0≤e)) (aB (decide (e<(((length c):Nat):Int))) (aB (aE zI (getD c (e.toNat) .nils)) (aA ((aC (getD c (e.toNat) .nils)) !=b) (x0 (aC (getD c (e.toNat) .nils))) (Fr x0 x1 n b c d (i64.wrap (e+1))))))) (x1 b c d e false))
def TZ (b:Ls) (K:Int→Prop):Prop:=
 (∃ n:Nat,Fr K (fun c _ _ _ _=>(K c)) n 0 b (((length b):Nat):Int) 0)
def Ng:oR:=TZ
def xH:jN:=lC vD lN
def pN:Sg:=⟨xH,Int→Prop,fun K=>(fun r0=>K (ic r0))⟩
def yp2 (Q:Qx):Int→Prop:=(fun b=>Q .ret [(2,.v (ic b))] [])
def yp3 (Q:Qx):Int→Ls→Int→Int→Bool→Prop:=(fun b c d e f=>Q (.exit 0) [(3,.v (ic b)),(6,.v (.data c)),(7,.v (ic d)),(8,.v (ic e)),(9,.v (.bool f))] [])
def zH:Pat aG:=fV 6 vD (fV 7 bL (fV 8 bL fN))
def dm (Q:Qx):List St:=[⟨(pS hN (fV 3 bL zH) fN),Fr (yp2 Q) (yp3 Q)⟩]
def dp:LP:=fG [(38508400,dm)]
def Ua (e:Es):SE:=sE (E e) [] (dp)
theorem dt (e:Es) (he:EG e):SEOk (bC (E e)) (Ua e):=bK (aK.uni _) trivial trivial he.ok
theorem yoM (e:Es):eC (Ua e) 5 a Rm false (dm):=fun _=>⟨fun _=>by kernel_rfl,fun _ _=>by kernel_rfl,trivial⟩
theorem yoN (e:Es) (he:EG e):cQ (bC (E e)) (dp) [] 38508400 (.loop 38508400 Rm):=fun _ _ _=>bU.st (aK.uni _) (cL (dt e he) 5) (cF.no _ _) (aZ (by kernel_rfl)) (yoM e _)
theorem yt6 (e:Es):bN (Ua e) 6 Rl pN TZ:=fun _ _=>by kernel_rfl
theorem yt7 (e:Es) (he:EG e):bM (E e) (pN.pw Ng) Mb:=bO he (yt6 e) (dt e he) bA.flat (cZ (l:=[(38508400,.loop 38508400 Rm)]) ⟨yoN e he,trivial⟩ (by kernel_rfl))
abbrev gS:Type:=J4 ((Int→Prop)→Prop)
def Ub (a0:eJ) (a1:oR) (b c d e:Int) (K:Int→Prop):Prop:=
 (a0 b c (fun f=>(a0 d e (fun g=>(a1 ([(ic f),(ic g)]:Ls) K)))))
def Bc:gS:=Ub rT Ng
def nR:jN:=lC nQ Fq
def nD:Sg:=⟨nR,Int→Prop,fun K=>(fun r0=>K (ic r0))⟩
def yDF (e:Es) (a0:eJ) (a1:oR):SE:=sE (E e) [(Ct,vJ.pw a0),(Mb,pN.pw a1)] cG
theorem yDG (e:Es) (a0 a1):bN (yDF e a0 a1) 6 Q2 nD (Ub a0 a1):=fun _ _=>by kernel_rfl
theorem IL (e:Es) (he:EG e):bM (E e) (nD.pw Bc) AV:=bO he (yDG e _ _) (bK (aK.uni _) ⟨(IK e he),(yt7 e he),trivial⟩ trivial he.ok) bA.flat (aZ (by kernel_rfl))
abbrev nS:Type:=Int→Int→(Int→Int→Prop)→Prop
def Uc (b c:Int) (K:Int→Int→Prop):Prop:=
 (K (u64.wrap ((u64.wrap ((u64.wrap ((Int.fdiv b 4294967296)*(Int.fdiv c 4294967296)))+(Int.fdiv (u64.wrap ((u64.wrap ((Int.fdiv b 4294967296)*(u64.wrap (BitVec.ofInt u64.bits c&&&BitVec.ofInt u64.bits 4294967295).toNat)))+(Int.fdiv (u64.wrap ((u64.wrap (BitVec.ofInt u64.bits b&&&BitVec.ofInt u64.bits 4294967295).toNat)*(u64.wrap (BitVec.ofInt u64.bits c&&&BitVec.ofInt u64.bits 4294967295).toNat))) 4294967296))) 4294967296)))+(Int.fdiv (u64.wrap ((u64.wrap (BitVec.ofInt u64.bits (u64.wrap ((u64.wrap ((Int.fdiv b 4294967296)*(u64.wrap (BitVec.ofInt u64.bits c&&&BitVec.ofInt u64.bits 4294967295).toNat)))+(Int.fdiv (u64.wrap ((u64.wrap (BitVec.ofInt u64.bits b&&&BitVec.ofInt u64.bits 4294967295).toNat)*(u64.wrap (BitVec.ofInt u64.bits c&&&BitVec.ofInt u64.bits 4294967295).toNat))) 4294967296)))&&&BitVec.ofInt u64.bits 4294967295).toNat)+(u64.wrap ((u64.wrap (BitVec.ofInt u64.bits b&&&BitVec.ofInt u64.bits 4294967295).toNat)*(Int.fdiv c 4294967296))))) 4294967296))) (u64.wrap (b*c)))
def zJ:nS:=Uc
def IM:Sg:=⟨rS,Int→Int→Prop,fun K=>(fun r0 r1=>K (.tup [(.int .u64 r0),(.int .u64 r1)]))⟩
def yLF (e:Es):SE:=sE (E e) [] cG
theorem yLG (e:Es):bN (yLF e) 6 Q3 IM Uc:=fun _ _=>by kernel_rfl
theorem Ud (e:Es) (he:EG e):bM (E e) (IM.pw zJ) EY:=bO he (yLG e) (bK (aK.uni _) trivial trivial he.ok) bA.flat (aZ (by kernel_rfl))
abbrev IN:Type:=Bool→Int→Int→(Int→Int→Int→Prop)→Prop
def Ue (b:Bool) (c d:Int) (K:Int→Int→Int→Prop):Prop:=
 (aA (decide ((if d>c then d else c)>1000000000000000000)) (K 0 0 16) (aA b (K (i64.wrap (0-(i64.wrap c))) (i64.wrap d) 0) (K (i64.wrap c) (i64.wrap d) 0)))
def Bd:IN:=Ue
def Nh:Sg:=⟨(lC vB rS),Int→Int→Int→Prop,fun K=>(fun r0 r1 r2=>K (.tup [(.agg [(ic r0),(ic r1)]),(ic r2)]))⟩
def yBx (e:Es):SE:=sE (E e) [] cG
theorem yBy (e:Es):bN (yBx e) 6 Q4 Nh Ue:=fun _ _=>by kernel_rfl
theorem du (e:Es) (he:EG e):bM (E e) (Nh.pw Bd) HP:=bO he (yBy e) (bK (aK.uni _) trivial trivial he.ok) bA.flat (aZ (by kernel_rfl))
abbrev dE:Type:=J4 ((Int→Int→Int→Prop)→Prop)
def Uf (a0:gS) (a1:gY) (a2:eJ) (a3:nS) (a4:IN) (b c d e:Int) (K:Int→Int→Int→Prop):Prop:=
 (a0 b c d e (fun f=>(aA (f !=0) (K 0 0 f) (a1 b (fun g=>(a1 d (fun h=>(a2 g (u64.wrap e) (fun i=>(a2 h (u64.wrap c) (fun j=>(aB (!(decide (i=0))) (aB (!(decide (j=0))) (a3 (u64.wrap (Int.tdiv g i)) (u64.wrap (Int.tdiv h j)) (fun k l=>(aB (!(decide (j=0))) (aB (!(decide (i=0))) (a3 (u64.wrap (Int.tdiv (u64.wrap c) j)) (u64.wrap (Int.tdiv (u64.wrap e) i)) (fun m o=>(aA (decide ((u64.wrap (k+m))>0)) (K 0 0 16) (aA (decide (l>0)) (a4 ((decide (b<0)) !=(decide (d<0))) l o K) (a4 false l o K))))))))))))))))))))))
def ybF:dE:=Uf Bc CL vH zJ Bd
def fA:Sg:=⟨nR,Int→Int→Int→Prop,fun K=>(fun r0 r1 r2=>K (.tup [(.agg [(ic r0),(ic r1)]),(ic r2)]))⟩
def yHn (e:Es) (a0:gS) (a1:gY) (a2:eJ) (a3:nS) (a4:IN):SE:=sE (E e) [(AV,nD.pw a0),(Cr,tQ.pw a1),(EX,xG.pw a2),(EY,IM.pw a3),(HP,Nh.pw a4)] cG
theorem yHo (e:Es) (a0 a1 a2 a3 a4):bN (yHn e a0 a1 a2 a3 a4) 6 Q5 fA (Uf a0 a1 a2 a3 a4):=fun _ _=>by kernel_rfl
theorem Fs (e:Es) (he:EG e):bM (E e) (fA.pw ybF) AW:=bO he (yHo e _ _ _ _ _) (bK (aK.uni _) ⟨(IL e he),(Nd e he),(TX e he),(Ud e he),(du e he),trivial⟩ trivial he.ok) bA.flat (aZ (by kernel_rfl))
abbrev Ft:Type:=Int→(Bool→Prop)→Prop
def Ug (b:Int) (K:Bool→Prop):Prop:=
 (K (b !=b))
def Uh:Ft:=Ug
def Ui:Sg:=⟨pt1,Bool→Prop,fun K=>(fun r0=>K (.bool r0))⟩
def ywy (e:Es):SE:=sE (E e) [] cG
theorem ywz (e:Es):bN (ywy e) 6 Q8 Ui Ug:=fun _ _=>by kernel_rfl
theorem ywA (e:Es) (he:EG e):bM (E e) (Ui.pw Uh) Mc:=bO he (ywz e) (bK (aK.uni _) trivial trivial he.ok) bA.flat (aZ (by kernel_rfl))
def Uj (a0:Ft) (b c:Int) (K:Int→Prop):Prop:=
 (a0 b (fun d=>(a0 c (fun e=>(aA d (aA e (K 0) (K (-1))) (aA e (K 1) (aA (decide (b<c)) (K (-1)) (aA (decide (b>c)) (K 1) (K 0)))))))))
def Ni:eJ:=Uj Uh
def Fu:Sg:=⟨IJ,Int→Prop,fun K=>(fun r0=>K (ic r0))⟩
def ysn (e:Es) (a0:Ft):SE:=sE (E e) [(Mc,Ui.pw a0)] cG
theorem yso (e:Es) (a0):bN (ysn e a0) 6 Q9 Fu (Uj a0):=fun _ _=>by kernel_rfl
theorem ysp (e:Es) (he:EG e):bM (E e) (Fu.pw Ni) Md:=bO he (yso e _) (bK (aK.uni _) ⟨(ywA e he),trivial⟩ trivial he.ok) bA.flat (aZ (by kernel_rfl))
def Uk (b:Int) (K:Bool→Prop):Prop:=
 (K (b !=b))
def Ul:Ft:=Uk
def Um:Sg:=⟨Nf,Bool→Prop,fun K=>(fun r0=>K (.bool r0))⟩
def yt9 (e:Es):SE:=sE (E e) [] cG
theorem yua (e:Es):bN (yt9 e) 6 R0 Um Uk:=fun _ _=>by kernel_rfl
theorem yub (e:Es) (he:EG e):bM (E e) (Um.pw Ul) Me:=bO he (yua e) (bK (aK.uni _) trivial trivial he.ok) bA.flat (aZ (by kernel_rfl))
def Un (a0:Ft) (b c:Int) (K:Int→Prop):Prop:=
 (a0 b (fun d=>(a0 c (fun e=>(aA d (aA e (K 0) (K (-1))) (aA e (K 1) (aA (decide (b<c)) (K (-1)) (aA (decide (b>c)) (K 1) (K 0)))))))))
def Nj:eJ:=Un Ul
def Uo:Sg:=⟨rS,Int→Prop,fun K=>(fun r0=>K (ic r0))⟩
def yrS (e:Es) (a0:Ft):SE:=sE (E e) [(Me,Um.pw a0)] cG
theorem yrT (e:Es) (a0):bN (yrS e a0) 6 R1 Uo (Un a0):=fun _ _=>by kernel_rfl
theorem yrU (e:Es) (he:EG e):bM (E e) (Uo.pw Nj) Mf:=bO he (yrT e _) (bK (aK.uni _) ⟨(yub e he),trivial⟩ trivial he.ok) bA.flat (aZ (by kernel_rfl))
def Fv (x0:Int→Prop) (x1:Int→Ls→Int→Int→Bool→Prop):Nat→Int→Ls→Int→Int→Prop
 | 0,_,_,_,_=>False
 | n+1,b,c,d,e=>
 (aA (decide (e<d)) (aB (decide (0≤e)) (aB (decide (e<(((length c):Nat):Int))) (aB (aE zI (getD c (e.toNat) .nils)) (aA ((aC (getD c (e.toNat) .nils)) !=b) (x0 (aC (getD c (e.toNat) .nils))) (Fv x0 x1 n b c d (i64.wrap (e+1))))))) (x1 b c d e false))
def Up (b:Ls) (K:Int→Prop):Prop:=
 (∃ n:Nat,Fv K (fun c _ _ _ _=>(K c)) n 0 b (((length b):Nat):Int) 0)
def Nk:oR:=Up
def yzD (Q:Qx):Int→Prop:=(fun b=>Q .ret [(2,.v (ic b))] [])
def yzE (Q:Qx):Int→Ls→Int→Int→Bool→Prop:=(fun b c d e f=>Q (.exit 0) [(3,.v (ic b)),(6,.v (.data c)),(7,.v (ic d)),(8,.v (ic e)),(9,.v (.bool f))] [])
def dv (Q:Qx):List St:=[⟨(pS hN (fV 3 bL zH) fN),Fv (yzD Q) (yzE Q)⟩]
def dw:LP:=fG [(53260600,dv)]
def Uq (e:Es):SE:=sE (E e) [] (dw)
theorem dx (e:Es) (he:EG e):SEOk (bC (E e)) (Uq e):=bK (aK.uni _) trivial trivial he.ok
theorem yxW (e:Es):eC (Uq e) 5 a Ro false (dv):=fun _=>⟨fun _=>by kernel_rfl,fun _ _=>by kernel_rfl,trivial⟩
theorem yxX (e:Es) (he:EG e):cQ (bC (E e)) (dw) [] 53260600 (.loop 53260600 Ro):=fun _ _ _=>bU.st (aK.uni _) (cL (dx e he) 5) (cF.no _ _) (aZ (by kernel_rfl)) (yxW e _)
theorem yEW (e:Es):bN (Uq e) 6 Rn pN Up:=fun _ _=>by kernel_rfl
theorem yEX (e:Es) (he:EG e):bM (E e) (pN.pw Nk) Mg:=bO he (yEW e) (dx e he) bA.flat (cZ (l:=[(53260600,.loop 53260600 Ro)]) ⟨yxX e he,trivial⟩ (by kernel_rfl))
abbrev iI:Type:=J4 ((Int→Int→Prop)→Prop)
def Ur (a0:gS) (a1:eJ) (a2:gY) (a3:nS) (a4:eJ) (a5:oR) (b c d e:Int) (K:Int→Int→Prop):Prop:=
 (a0 b c d e (fun f=>(aA (f !=0) (K 0 f) (aA ((decide (b<0)) !=(decide (d<0))) (a1 b d (fun g=>(K g 0))) (a2 b (fun g=>(a3 g (u64.wrap e) (fun h i=>(a2 d (fun j=>(a3 j (u64.wrap c) (fun k l=>(a4 h k (fun m=>(a4 i l (fun o=>(a5 ([(ic m),(ic o)]:Ls) (fun p=>(aA (decide (b<0)) (K (i64.wrap (0-p)) 0) (K p 0))))))))))))))))))))
def rU:iI:=Ur Bc Ni CL zJ Nj Nk
def Fw:Sg:=⟨nR,Int→Int→Prop,fun K=>(fun r0 r1=>K (.tup [(ic r0),(ic r1)]))⟩
def yHq (e:Es) (a0:gS) (a1:eJ) (a2:gY) (a3:nS) (a4:eJ) (a5:oR):SE:=sE (E e) [(AV,nD.pw a0),(Md,Fu.pw a1),(Cr,tQ.pw a2),(EY,IM.pw a3),(Mf,Uo.pw a4),(Mg,pN.pw a5)] cG
theorem yHr (e:Es) (a0 a1 a2 a3 a4 a5):bN (yHq e a0 a1 a2 a3 a4 a5) 6 R2 Fw (Ur a0 a1 a2 a3 a4 a5):=fun _ _=>by kernel_rfl
theorem IP (e:Es) (he:EG e):bM (E e) (Fw.pw rU) Cv:=bO he (yHr e _ _ _ _ _ _) (bK (aK.uni _) ⟨(IL e he),(ysp e he),(Nd e he),(Ud e he),(yrU e he),(yEX e he),trivial⟩ trivial he.ok) bA.flat (aZ (by kernel_rfl))
end Go.Pf.Vc
