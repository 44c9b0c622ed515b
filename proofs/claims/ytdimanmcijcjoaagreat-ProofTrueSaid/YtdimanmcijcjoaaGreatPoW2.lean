/- Part 2. -/
import Derived.Test.YtdimanmcijcjoaaGreatPoW1
open Go.IntKind (i64 u8 u64)
open List (length getD take drop replicate set map isEmpty)
noncomputable section
namespace Go.Pf
open Go
def AA (md:Nat) (H:Hp) (pu:Bool) (esz bytes:Nat) (s:PV) (ys:List PV) (K:PV→Hp→Prop):Prop:=
 match s with
 | .nils=>aB ys.isEmpty (K .nils H) (Cq H pu esz bytes ys K)
 | .emp=>aB ys.isEmpty (K .emp H) (Cq H pu esz bytes ys K)
 | .own id lo len ext cap=>
  (match H[id]? with
   | some b=>
    aA (decide (b.rows.length=ext)) (aA (decide (b.pu=pu)&&decide (b.esz=esz)) (aA (decide (lo+len≤ext))
     (aB ys.isEmpty (K (.own id lo len ext cap) H)
      (match cap with
       | some c=>
        let W1:=aA (!b.fz) (K (.own id lo (len+ys.length) ext cap) (H.set id { b with rows:=b.rows.take (lo+len)++(ys++b.rows.drop (lo+len+ys.length)) }));let W2:=Cq H pu esz bytes ((b.rows.drop lo).take len++ys) K
        (match md with
         | 9=>aB (decide (len+ys.length≤c)) W1 W2
         | 8=>aB (decide (len+ys.length≤c)) W1 W2
         | 2=>aA (!decide (len+ys.length≤c)) W2
         | _=>aA (decide (len+ys.length≤c)) W1)
       | none=>
        let W1:=K (.own id lo (len+ys.length) ext none) (H.set id { b with rows:=b.rows.take (lo+len)++(ys++b.rows.drop (lo+len+ys.length)) });let W3:=aA (decide (lo=0)) (aA (decide (len=ext)) (aA (decide ((ext+ys.length+64)*(bytes+1)≤room))
          (K (.own id 0 (b.rows++ys).length (b.rows++ys).length none) (H.set id { b with rows:=b.rows++ys }))))
        let W4:=aA (decide (lo=0)) (aA (decide (len≤ext)) (aA (decide ((len+ys.length+64)*(bytes+1)≤room))
          (K (.own id 0 (len+ys.length) (len+ys.length) none) (H.set id { b with rows:=b.rows.take len++ys }))))
        aA (!b.fz) (match md with
         | 9=>aB (decide (lo+len+ys.length≤ext)) W1 W3
         | 8=>aB (decide (lo+len+ys.length≤ext)) W1 W4
         | 1=>aA (decide (lo+len+ys.length≤ext)) W1
         | _=>aA (!decide (lo+len+ys.length≤ext)) W3)))))
   | none=>False)
 | _=>False
def LR (H:Hp) (esz:Nat) (lo hi mx:Option Int) (x:PV) (K:PV→Prop):Prop:=
 match x with
 | .nils=>aA (decide (lo.getD 0=0)&&(decide (hi.getD 0=0)&&decide (mx.getD 0=0))) (K .nils)
 | .emp=>aA (decide (lo.getD 0=0)&&(decide (hi.getD 0=0)&&decide (mx.getD 0=0))) (K .emp)
 | .data rows=>
  let h:=hi.getD rows.length;let l:=lo.getD 0
  (match mx with
   | none=>aA (decide (0≤l)) (aA (decide (l≤h)) (aA (decide (h≤rows.length)) (aA (decide (l=0)||kY esz rows) (K (.data ((rows.take h.toNat).drop l.toNat))))))
   | some m=>aA (decide (0≤l)) (aA (decide (l≤h)) (aA (decide (h≤m)) (aA (decide (m≤rows.length)) (aA (decide (l=0)||kY esz rows)
      (aB (decide (l=m)) (K .emp) (K (.data ((rows.take h.toNat).drop l.toNat)))))))))
 | .own id lo0 len ext cap=>
  let h:=hi.getD len;let l:=lo.getD 0
  (match H[id]? with
   | some b=>aA (b.esz==esz)
    (match mx with
     | none=>aA (decide (0≤l)) (aA (decide (l≤h)) (aA (decide (h≤len)||decide (h≤Ah len cap)) (K (.own id (lo0+l.toNat) (h-l).toNat ext (cap.map fun c=>c-l.toNat)))))
     | some m=>aA (decide (0≤l)) (aA (decide (l≤h)) (aA (decide (h≤m)) (aA (decide (m≤len)||decide (m≤Ah len cap)) (K (.own id (lo0+l.toNat) (h-l).toNat ext (some (m-l).toNat)))))))
   | none=>False)
 | _=>False
def tV (sh:Sh) (rows:List PV) (i:Nat) (K:PV→Prop):Prop:=
 match sh with
 | .raw=>(match rows[i]? with | some r=>K r | none=>False)
 | sh=>aA (decide (i<rows.length)) (aA (aF sh (rows.getD i .nils)) (K (oF sh (rows.getD i .nils))))
def Uk:List Cs→Bool
 | []=>true
 | .i _::r=>Uk r
 | _=>false
def Z1 (sh:Sh) (esz sz:Nat):Sh:=
 match sh with
 | .agg l=>bif !(Nat.beq esz sz)&&(Nat.beq l.length sz&&Uk l) then .raw else .agg l
 | x=>x
def Ul:List Cs→Bool
 | []=>false
 | .d::_=>true
 | _::r=>Ul r
def Um (sh:Sh) (pu:Bool):Sh:=
 match sh with
 | .agg l=>bif !pu&&Ul l then .raw else .agg l
 | x=>x
def iN (E:Env) (callK:CK) (a:An) (F:aG) (H:Hp) (o:AOp) (K:OK):Prop:=
 match o with
 | .pick c x y=>
  (match evV E F c with
   | some (.bool t)=>aB t (match evV E F x with | some p=>wv H K p | none=>False) (match evV E F y with | some p=>wv H K p | none=>False)
   | _=>False)
 | .bin op x y=>
  (match evV E F x,evV E F y with
   | some (.int k p),some (.int k' q)=>Az op k k' p q (wv H K)
   | _,_=>False)
 | .load agg sz x=>
  (match ev E F x with
   | some (.v (.ptr id ext i off))=>
    (match H[id]? with
     | some b=>aA (decide (b.rows.length=ext)) (tV (Um (Z1 a.sh b.esz sz) b.pu) b.rows i fun row=>match yfU agg sz row off with | some p=>wv H K p | none=>False)
     | none=>False)
   | _=>(match yar E Fh F H (.load agg sz x) with | some ⟨x,bx,H'⟩=>K x bx H' | none=>False))
 | .store sz x y=>
  (match ev E F x with
   | some (.v (.ptr id ext i off))=>
    (match evV E F y with
     | some p=>
       (match H[id]? with
        | some b0=>
         Fj b0.pu H p fun q H'=>
          (match H'[id]? with
           | some b=>aA (decide (b.rows.length=ext)) (aA (!b.fz) (tV (Um a.sh b.pu) b.rows i fun row=>match yiD row off sz q with
            | some row'=>K none none (H'.set id { b with rows:=b.rows.set i row' })
            | none=>False))
           | none=>False)
        | none=>False)
     | none=>False)
   | _=>(match yar E Fh F H (.store sz x y) with | some ⟨x,bx,H'⟩=>K x bx H' | none=>False))
 | .iad esz x i=>
  (match evV E F x,yfn E F i with
   | some (.data rows),some n=>
    aA (decide (0≤n)) (aA (decide (n<rows.length)) (aA (aF a.sh (rows.getD n.toNat .nils)) (aA (decide ((oF a.sh (rows.getD n.toNat .nils)).cells.length=esz)) (wv H K (.eptr [oF a.sh (rows.getD n.toNat .nils)] 0 0)))))
   | some (.own id lo len ext _),some n=>
    (match H[id]? with
     | some b=>aA (decide (0≤n)) (aA (decide (n<len)) (aA (decide (b.esz=esz)) (wv H K (.ptr id ext (lo+n.toNat) 0))))
     | none=>False)
   | some (.sub id ext r off m e),some j=>aA (Nat.beq e esz) (xQ m j (fun k=>wv H K (.ptr id ext r (off+k*esz))) m)
   | _,_=>False)
 | .iadA n esz x i=>
  (match ev E F x,yfn E F i with
   | some (.bp s o),some j=>xQ n j (fun k=>K (some (.bp s (o+k*esz))) none H) n
   | some (.v (.ptr id e r o)),some j=>xQ n j (fun k=>wv H K (.ptr id e r (o+k*esz))) n
   | some (.v (.eptr rows r o)),some j=>xQ n j (fun k=>wv H K (.eptr rows r (o+k*esz))) n
   | _,_=>False)
 | .idx agg n esz x i=>
  (match evV E F x,yfn E F i with
   | some (.agg cs),some j=>(match x with
    | .c _=>LO agg n esz cs j (wv H K)
    | _=>xQ n j (fun k=>match yfU agg esz (.agg cs) (k*esz) with | some p=>wv H K p | none=>False) n)
   | _,_=>False)
 | .slc esz x lo hi mx=>
  (match evV E F x,mL E F lo,mL E F hi,mL E F mx with
   | some p,some l,some h,some m=>(match (m.isSome&&h.isNone) with | true=>False | false=>LR H esz l h m p (wv H K))
   | _,_,_,_=>False)
 | .mkSl pu esz bytes z l c=>
  (match yfn E F l,yfn E F c with
   | some l,some c=>aA (decide (0≤l)) (aA (decide (l≤c)) (aA (decide ((c.toNat+64)*(bytes+1)≤room))
      (K (some (.v (.own H.length 0 l.toNat c.toNat (some c.toNat)))) none (H++[⟨false,pu,esz,replicate c.toNat z⟩]))))
   | _,_=>False)
 | .app pu esz bytes s x=>
  (match evV E F s,evV E F x with
   | some s,some x=>LQ H x fun ys=>aA (kY esz ys) (aA (sG H pu x) (AA a.md H pu esz bytes s ys fun r H'=>K (some (.v r)) none H'))
   | _,_=>False)
 | .appZ pu esz bytes z s n=>
  (match evV E F s,yfn E F n with
   | some .nils,some k=>aA (decide (0≤k)) (aB (decide (k.toNat=0)) (wv H K .nils) (Cq H pu esz bytes (replicate k.toNat z) fun r H'=>K (some (.v r)) none H'))
   | _,_=>False)
 | .eqN neg x=>
  (match evV E F x with
   | some .nils=>wv H K (.bool (bif neg then false else true))
   | some (.mt b)=>wv H K (.bool (bif neg then !b else b))
   | some (.data rows)=>aA (!rows.isEmpty) (wv H K (.bool neg))
   | some (.own _ _ _ _ _)=>wv H K (.bool neg)
   | _=>False)
 | .clr pu esz z x=>
  (match evV E F x with
   | some .nils=>wv H K (.tup [])
   | some .emp=>wv H K (.tup [])
   | some (.mt _)=>wv H K (.tup [])
   | some (.own id lo len ext _)=>(match H[id]? with
    | some b=>aB (decide (len=0)) (wv H K (.tup [])) (aA (decide (b.rows.length=ext)) (aA (decide (lo+len≤ext)) (aA (!b.fz) (aA (b.pu==pu) (aA (Nat.beq b.esz esz) (K (some (.v (.tup []))) none (H.set id { b with rows:=b.rows.take lo++(replicate len z++b.rows.drop (lo+len)) })))))))
    | none=>False)
   | _=>False)
 | .boxH pu esz x=>
  (match evV E F x with
   | some p=>Fj pu H p fun q H'=>aA (Nat.beq q.cells.length esz&&iC q.cells) (K (some (.v (.ptr H'.length 1 0 0))) none (H'++[⟨false,pu,esz,[q]⟩]))
   | none=>False)
 | .bSl pu esz z len parts=>
  (match len with
   | 0=>wv H K .emp
   | len+1=>Cp E F pu esz (replicate (len+1) z) H parts fun rows H'=>K (some (.v (.own H'.length 0 (len+1) (len+1) (some (len+1))))) none (H'++[⟨false,pu,esz,rows⟩]))
 | .buildN pu esz z len parts=>
  (match len with
   | 0=>wv H K .emp
   | len+1=>Cp E F pu esz (replicate (len+1) z) H parts fun rows H'=>K (some (.v (.own H'.length 0 (len+1) (len+1) none))) none (H'++[⟨false,pu,esz,rows⟩]))
 | .bD esz z len parts=>
  (match len with
   | 0=>wv H K .emp
   | len+1=>Cp E F true esz (replicate (len+1) z) H parts fun rows H'=>K (some (.v (.data rows))) none H')
 | .mvD x=>
  (match evV E F x with
   | some p=>Fi H p fun q H'=>(match q with | .data rows=>K (some (.v (.data rows))) none H' | _=>False)
   | none=>False)
 | .call f args=>
  (match evV E F f,evs E F args with
   | some g,some vs=>callK g vs H fun r H'=>K (some (.v r)) none H'
   | _,_=>False)
 | o=>(match yar E Fh F H o with | some ⟨x,bx,H'⟩=>K x bx H' | none=>False)
def gV:aG→Nat→FV→aG
 | [],_,_=>[]
 | (k,y)::r,s,x=>bif Nat.beq k s then (k,x)::r else (k,y)::gV r s x
def HY (F:aG) (g:Option (Nat×Bool)) (yes no:aG→Prop):Prop:=
 match g with
 | none=>yes F
 | some (s,want)=>(match fget F s with
  | some (.v (.bool b))=>(match want with
   | true=>aB b (yes (gV F s (.v (.bool true)))) (no (gV F s (.v (.bool false))))
   | false=>aB b (no (gV F s (.v (.bool true)))) (yes (gV F s (.v (.bool false)))))
  | some (.v (.tup []))=>no F
  | _=>False)
def tW (F:aG) (c:Opd) (b:Bool):aG:=
 match c with
 | .t s=>gV F s (.v (.bool b))
 | _=>F
def Cr (F:aG):Option Nat→aG
 | some d=>cX F d (.v (.tup []))
 | none=>F
def AB (p:PV) (K:PV→Prop):Prop:=
 match p with
 | .bool b=>K (.bool b)
 | .int k n=>K (.int k n)
 | .agg cs=>K (.agg cs)
 | .data r=>K (.data r)
 | .own a b c d e=>K (.own a b c d e)
 | .ptr a b c d=>K (.ptr a b c d)
 | .sub a b c d e f=>K (.sub a b c d e f)
 | p=>K p
def qN:List PV→(List PV→Prop)→Prop
 | [],K=>K []
 | x::r,K=>AB x fun x=>qN r fun r=>K (x::r)
def tX (p:PV) (K:PV→Prop):Prop:=
 match p with
 | .agg cs=>qN cs fun cs=>K (.agg cs)
 | .tup cs=>qN cs fun cs=>K (.tup cs)
 | p=>AB p K
def AD (x:FV) (K:FV→Prop):Prop:=
 match x with
 | .v p=>tX p fun p=>K (.v p)
 | .box p=>tX p fun p=>K (.box p)
 | .bp s o=>K (.bp s o)
def tY:aG→(aG→Prop)→Prop
 | [],K=>K []
 | (k,x)::r,K=>AD x fun x=>tY r fun r=>K ((k,x)::r)
def AE (b:Bool) (K:Bool→Prop):Prop:=match b with | true=>K true | false=>K false
def tZ:Hp→(Hp→Prop)→Prop
 | [],K=>K []
 | ⟨fz,pu,esz,rows⟩::r,K=>AE fz fun fz=>AE pu fun pu=>tZ r fun r=>K (⟨fz,pu,esz,rows⟩::r)
theorem Un (p:PV) (K:PV→Prop):AB p K=K p:=by cases p<;>rfl
theorem Uo:∀ (l:List PV) (K:List PV→Prop),qN l K=K l
 | [],_=>rfl
 | x::r,K=>by simp only [qN,Un,Uo r]
theorem Z2 (p:PV) (K:PV→Prop):tX p K=K p:=by cases p<;>simp only [tX,Uo,Un]
theorem Z3 (x:FV) (K:FV→Prop):AD x K=K x:=by cases x<;>simp only [AD,Z2]
theorem Up:∀ (F:aG) (K:aG→Prop),tY F K=K F
 | [],_=>rfl
 | (k,x)::r,K=>by simp only [tY,Z3,Up r]
theorem Z4 (b:Bool) (K:Bool→Prop):AE b K=K b:=by cases b<;>rfl
theorem Uq:∀ (H:Hp) (K:Hp→Prop),tZ H K=K H
 | [],_=>rfl
 | ⟨fz,pu,esz,rows⟩::r,K=>by simp only [tZ,Z4,Uq r]
def Ct (F:aG) (H:Hp) (K:aG→Hp→Prop):Prop:=tY F fun F=>tZ H fun H=>K F H
theorem HZ (F:aG) (H:Hp) (K:aG→Hp→Prop):Ct F H K=K F H:=by simp only [Ct,Up,Uq]
def qO (E:Env) (callK:CK) (an:List An):List AO→Nat→aG→Hp→(aG→Hp→Prop)→Prop
 | [],_,F,H,K=>K F H
 | o::r,i,F,H,K=>
  HY F o.guard
   (fun F=>iN E callK (Ay an i) F H o.op fun x bx H'=>match yek (iZ F bx) o.dst x with
    | none=>False
    | some F'=>Ct F' H' fun F' H'=>qO E callK an r (i+1) F' H' K)
   (fun F=>qO E callK an r (i+1) (Cr F o.dst) H K)
def yIa (E:Env) (F:aG) (f:Opd) (az:List Opd):Option (List Nat):=
 match evV E F f,evs E F az with
 | some g,some vs=>(match ynY E g vs with
  | some x=>some (x.id::eO (x.all.set x.j (.int .i64 0)))
  | none=>(match g with
   | .fn (.func n) first captured=>bif E.qui n then some (eO (first++vs++captured)) else none
   | _=>none))
 | _,_=>none
def xR (E:Env) (F:aG) (H:Hp) (o:AOp):FP:=
 match o with
 | .call f az=>bif sH E F f az then aR E F H (.call f az) else (match yIa E F f az with | some l=>⟨f.slots++xD az,[],List.range H.length,l,true,false⟩ | none=>aR E F H (.call f az))
 | o=>aR E F H o
def yFZ (E:Env) (F:aG) (H:Hp) (o:AO):FP:=
 let p:=xR E F H o.op;⟨BW o.guard++p.rd,o.dst.toList++p.wr,p.hr,p.hw,p.push,p.all⟩
def fpNo (o:AO):FP:=⟨BW o.guard,o.dst.toList,[],[],false,false⟩
def oG (E:Env) (callK:CK) (an:List An) (F0:aG) (l0:List AO) (pairs:List (Nat×Nat)):List AO→Nat→aG→Hp→List FP→(aG→Hp→Prop)→Prop
 | [],_,F,H,ps,K=>aA (yjb ps.reverse pairs&&BX F0 l0 l0) (K F H)
 | o::r,i,F,H,ps,K=>
  HY F o.guard
   (fun F=>iN E callK (Ay an i) F H o.op fun x bx H'=>match ygQ (iZ F bx) o.dst x with
    | none=>False
    | some F'=>Ct F' H' fun F' H'=>oG E callK an F0 l0 pairs r (i+1) F' H' (yFZ E F H o::ps) K)
   (fun F=>oG E callK an F0 l0 pairs r (i+1) (Cr F o.dst) H (fpNo o::ps) K)
abbrev LP:=Nat→aG→aG→Hp→(Ex→aG→Hp→Prop)→Prop
abbrev YK:=List PV→Hp→(Option Nat→Hp→Prop)→Prop
def oH:YK:=fun _ _ _=>False
def WC (E:Env) (callK:CK) (lp:LP):aG→YK→TC→aG→Hp→(Ex→aG→Hp→Prop)→Prop
 | _,_,.skip,F,H,Q=>Q .norm F H
 | _,_,.ops l an [] fg,F,H,Q=>qO E callK an l 0 F H fun F' H'=>Ct (fdels F' fg) H' fun F' H'=>Q .norm F' H'
 | _,_,.ops l an (p::ps) fg,F,H,Q=>oG E callK an (tP F l) l (p::ps) l 0 (tP F l) H [] fun F' H'=>Ct (fdels F' fg) H' fun F' H'=>Q .norm F' H'
 | G,yk,.seq a b,F,H,Q=>WC E callK lp G yk a F H fun x F' H'=>match x with
  | .norm=>WC E callK lp G yk b F' H' Q
  | .exit i=>Q (.exit i) F' H'
  | .ret=>Q .ret F' H'
  | .brk k i=>Q (.brk k i) F' H'
 | G,yk,.cond c a b,F,H,Q=>(match evV E F c with
  | some (.bool t)=>aB t (WC E callK lp G yk a (tW F c true) H Q) (WC E callK lp G yk b (tW F c false) H Q)
  | _=>False)
 | G,yk,.block id b,F,H,Q=>WC E callK lp G yk b F H fun x F' H'=>match x with
  | .norm=>Q .norm F' H'
  | .exit i=>(bif Nat.beq i id then Q .norm F' H' else Q (.exit i) F' H')
  | .ret=>Q .ret F' H'
  | .brk k i=>Q (.brk k i) F' H'
 | G,_,.loop id _,F,H,Q=>lp id G F H Q
 | G,_,.lG id _,F,H,Q=>lp id G F H Q
 | G,_,.join id _,F,H,Q=>lp id G F H Q
 | _,_,.exit id,F,H,Q=>Q (.exit id) F H
 | _,_,.ret,F,H,Q=>Q .ret F H
 | _,_,.bad,_,_,_=>False
 | _,_,.cut _,_,_,_=>False
 | _,_,.rangeF _ _ _ _ _ _ _,_,_,_=>False
 | _,_,.yret _ _ _ _ _ _ _,_,_,_=>False
abbrev Qx:Type:=Ex→aG→Hp→Prop
abbrev Ur (R:aG→Hp→Prop) (Q:Qx):Qx:=fun x F' H'=>match x with | .norm=>R F' H' | .exit i=>Q (.exit i) F' H' | .ret=>Q .ret F' H' | .brk k i=>Q (.brk k i) F' H'
def Cu (E:Env) (callK:CK) (lp:LP) (fn:TFn) (args:List PV) (H:Hp) (K:PV→Hp→Prop):Prop:=
 aA (decide (args.length=fn.nparams)) (WC E callK lp [] oH fn.body (sJ 0 args) H fun x F' H'=>match x with
  | .exit _ | .brk _ _=>False
  | .norm | .ret=>(match yjc F' H' fn.results with | some ps=>K (qI ps) H' | none=>False))
structure SE where
 E:Env
 sumK:Nat→Option (List PV→(PV→Prop)→Prop)
 inl:Nat→Option TFn
 lp:LP
 sumL:Nat→Option (List PV→HB→(PV→List PV→Prop)→Prop)
def Fl (wp:List PV→HB→(PV→List PV→Prop)→Prop) (x:LocC) (H:Hp) (K:PV→Hp→Prop):Prop:=
 Co H (x.all.set x.j (.int .i64 0)) fun az H'=>match H'[x.id]? with
  | some b=>aA (!b.fz&&b.pu) (wp (az.set x.j x.y) b fun q rows=>K q (H'.set x.id { b with rows:=rows }))
  | none=>False
def jD (S:SE):Nat→CK
 | 0,_,_,_,_=>False
 | d+1,f,args,H,K=>
  match f with
  | .fn (.func n) first captured=>
   (match ynY S.E f args with
   | some x=>(match S.sumL x.n with | some wp=>Fl wp x H K | none=>False)
   | none=>
   match S.sumK n with
    | some wp=>(bif S.E.rb n then HX (gJ H) (first++args++captured) fun az=>wp az fun r=>aA r.scalar (K r H)
     else Co H (first++args++captured) fun az H'=>wp az fun r=>K r (bif r.scalar then H else H'))
    | none=>(match S.inl n with
     | some fn=>(bif S.E.rb n then False else Cu S.E (jD S d) S.lp fn (first++args++captured) H K)
     | none=>(match S.E.eff n (first++args++captured) H with
      | some (c,t,x,y)=>aA c (aB t (K x.1 x.2) (K y.1 y.2))
      | none=>False)))
  | _=>False
@[irreducible] def WP (S:SE) (d:Nat) (fn:TFn) (args:List PV) (K:PV→Prop):Prop:=
 Cu S.E (jD S d) S.lp fn args [] fun r H=>HV H r K
abbrev EP:=Nat→Env→Prop
def fG (E e:Env):Prop:=e={ E with yn:=e.yn,ctx:=e.ctx,yl:=e.yl }
def aZ (E:Env):EP:=fun _ e=>fG E e
def LS (E:Env):EP:=fun _ e=>e=E
def Us (E:Env):EP:=fun _ e=>e=E.ats (E.yn+1)
def aQ (P:EP) (E:Env):Prop:=∀ n e,P n e→fG E e
theorem aQ.uni (E:Env):aQ (aZ E) E:=fun _ _ h=>h
def hnd (E:Env) (G:aG) (ps:List Nat) (az bd:AC) (n:Nat):Nat→List PV→Hp→Option (Option Nat×Hp):=fun y vs H=>(match yLz G ps vs with
 | some F1=>(match exec (E.ats y) n az F1 H with
  | some (.norm,F2,H2)=>(match exec (E.ats y) n bd F2 H2 with
   | some (.norm,_,H3)=>some (none,H3)
   | some (.exit i,_,H3)=>some (some i,H3)
   | _=>none)
  | _=>none)
 | none=>none)
def Z5 (E:Env) (G:aG) (ps:List Nat) (az bd:AC):EP:=fun n e=>e=E.push ⟨G,ps,az,bd⟩ (hnd E G ps az bd n)
def Good (P:EP) (callK:CK):Prop:=
 ∀ f args H K,callK f args H K→∃ r H',K r H'∧∃ m0,∀ n e m,m0≤n→P n e→m0≤m→ykc e (ybF e m) f args H=some (r,H')
section
variable {E:Env} {y:Nat} {cx:Nat→Option LCtx} {yl:Nat→Nat→List PV→Hp→Option (Option Nat×Hp)}
theorem Ia (F:aG) (x:Opd):ev { E with yn:=y,ctx:=cx,yl:=yl } F x=ev E F x:=by cases x<;>rfl
theorem uA (F:aG) (x:Opd):evV { E with yn:=y,ctx:=cx,yl:=yl } F x=evV E F x:=by simp only [evV,Ia]
theorem Fm (F:aG):∀ l:List Opd,evs { E with yn:=y,ctx:=cx,yl:=yl } F l=evs E F l
 | []=>rfl
 | x::r=>by simp only [evs,uA,Fm F r]
theorem Ut (F:aG) (x:Opd):yfn { E with yn:=y,ctx:=cx,yl:=yl } F x=yfn E F x:=by simp only [yfn,uA]
theorem Z6 (F:aG) (x:Option Opd):mL { E with yn:=y,ctx:=cx,yl:=yl } F x=mL E F x:=by cases x<;>simp only [mL,Ut]
theorem Uu (F:aG):∀ (l:List (Nat×Nat×Opd)) (cs:List PV),ykb { E with yn:=y,ctx:=cx,yl:=yl } F cs l=ykb E F cs l
 | [],_=>rfl
 | (_,_,x)::r,cs=>by simp only [ykb,uA,Uu F r]
theorem Uv (F:aG) (pu:Bool) (esz:Nat):∀ (l:List (Nat×Opd)) (rows:List PV) (H:Hp),ygz { E with yn:=y,ctx:=cx,yl:=yl } F pu esz rows H l=ygz E F pu esz rows H l
 | [],_,_=>rfl
 | (_,x)::r,rows,H=>by simp only [ygz,uA,Uv F pu esz r]
theorem Uw (F:aG) (x:Opd):jT { E with yn:=y,ctx:=cx,yl:=yl } F x=jT E F x:=by simp only [jT,Ia]
theorem Z7 (F:aG) (x:Opd):pD { E with yn:=y,ctx:=cx,yl:=yl } F x=pD E F x:=by simp only [pD,Ia]
theorem Ux (F:aG):∀ l:List (Nat×Opd),lZ { E with yn:=y,ctx:=cx,yl:=yl } F l=lZ E F l
 | []=>rfl
 | (_,x)::r=>by simp only [lZ,Uw,Ux F r]
theorem Z8 (F:aG) (f:Opd) (az:List Opd):sH { E with yn:=y,ctx:=cx,yl:=yl } F f az=sH E F f az:=by simp only [sH,uA,Fm]
theorem Z9 (F:aG) (H:Hp) (o:AOp):aR { E with yn:=y,ctx:=cx,yl:=yl } F H o=aR E F H o:=by
 cases o<;>simp only [aR,Uw,Z7,Ux,Z8]
theorem aa {F:aG} {H:Hp} {o:AOp} (h:oD o=false) (c1 c2:Nat→List PV→Hp→Option (PV×Hp)):yar { E with yn:=y,ctx:=cx,yl:=yl } c1 F H o=yar E c2 F H o:=by
 cases o<;>first | (simp [oD] at h;done) | simp only [yar,Ia,uA,Fm,Ut,Z6,Uu,Uv]
end
def Uy (E:Env) (F:aG) (H:Hp) (o:AOp) (K:OK):Prop:=
 ∃ out:Out,K out.x out.bx out.h∧∃ m0,∀ m,m0≤m→yar E (ybF E m) F H o=some out
def ae (P:EP) (F:aG) (H:Hp) (o:AOp) (K:OK):Prop:=
 ∃ out:Out,K out.x out.bx out.h∧∃ m0,∀ n e m,m0≤n→P n e→m0≤m→yar e (ybF e m) F H o=some out
section
variable {E:Env} {callK:CK} {F:aG} {H:Hp} {K:OK}
theorem af {o:AOp} (h:oD o=false) (c1 c2:Nat→List PV→Hp→Option (PV×Hp)):yar E c1 F H o=yar E c2 F H o:=by
 cases o<;>first | rfl | simp [oD] at h
theorem LT {o:AOp} (hc:oD o=false) (h:match yar E Fh F H o with | some ⟨x,bx,H'⟩=>K x bx H' | none=>False):Uy E F H o K:=by
 split at h
 ·rename_i x bx H' he;exact ⟨⟨x,bx,H'⟩,h,0,fun m _=>by rw [af hc (ybF E m) Fh,he]⟩
 ·exact h.elim
theorem LU {H:Hp} {x:PV} {K:PV→Hp→Prop} (h:Fi H x K):∃ y H',K y H'∧yeg H x=some (y,H'):=by
 unfold Fi at h;split at h
 ·exact ⟨_,_,h,rfl⟩
 ·exact ⟨_,_,h,rfl⟩
 ·exact ⟨_,_,h,rfl⟩
 ·exact ⟨_,_,h,rfl⟩
 ·exact ⟨_,_,h,rfl⟩
 ·split at h
  ·rename_i b hb;obtain ⟨h1,h⟩:=bJ.1 h;obtain ⟨h2,h⟩:=bJ.1 h;obtain ⟨h3,h⟩:=bJ.1 h;exact ⟨_,_,h,by simp only [yeg,hb];rw [Sj ⟨by simpa using h1,by simpa using h2,h3⟩]⟩
  ·exact h.elim
 ·exact h.elim
theorem Uz:∀ (l:List PV) (H:Hp) (K:List PV→Hp→Prop),HU H l K→∃ ys H',K ys H'∧ydT H l=some (ys,H')
 | [],H,K,h=>⟨_,_,h,rfl⟩
 | x::r,H,K,h=>by simp only [HU] at h;obtain ⟨y,H1,h,e1⟩:=LU h;obtain ⟨ys,H2,h,e2⟩:=Uz r H1 _ h;exact ⟨_,_,h,by simp only [ydT,e1,e2]⟩
theorem Fo {H:Hp} {x:PV} {K:PV→Hp→Prop} (h:tU H x K):∃ y H',K y H'∧yca H x=some (y,H'):=by
 cases x with
 | agg cs =>simp only [tU] at h;obtain ⟨ys,H',h,e⟩:=Uz cs H _ h;exact ⟨_,_,h,by simp only [yca,e,Option.map]⟩
 | _ =>simp only [tU] at h;obtain ⟨y,H',h,e⟩:=LU h;exact ⟨_,_,h,by simp only [yca,e]⟩
theorem Ib:∀ (l:List PV) (H:Hp) (K:List PV→Hp→Prop),Co H l K→∃ ys H',K ys H'∧ya3 H l=some (ys,H')
 | [],H,K,h=>⟨_,_,h,rfl⟩
 | x::r,H,K,h=>by simp only [Co] at h;obtain ⟨y,H1,h,e1⟩:=Fo h;obtain ⟨ys,H2,h,e2⟩:=Ib r H1 _ h;exact ⟨_,_,h,by simp only [ya3,e1,e2]⟩
theorem ag {H:Hp} {x:PV} {K:PV→Prop} (h:HW H x K):∃ y,K y∧purP H x=some y:=by
 have base:∀ {x:PV},tU H x (fun q _=>K q)→∃ y,K y∧(match yca H x with | some (q,_)=>some q | none=>none)=some y:=fun h=>by
  obtain ⟨y,H',h,e⟩:=Fo h;exact ⟨y,h,by simp only [e]⟩
 cases x with
 | ptr id ext i off=>
  simp only [HW] at h;split at h
  ·rename_i b hb;obtain ⟨h1,h⟩:=bJ.1 h;split at h
   ·rename_i row hrow;obtain ⟨y,H',h,e⟩:=Fo h;exact ⟨_,h,by simp only [purP,hb,hrow,e];rw [Sj (by simpa using h1)]⟩
   ·exact h.elim
  ·exact h.elim
 | eptr rows i off=>exact ⟨_,h,rfl⟩
 | _=>simp only [HW] at h;exact base h
theorem UA {H:Hp}:∀ (l:List PV) (K:List PV→Prop),HX H l K→∃ ys,K ys∧yxd H l=some ys
 | [],K,h=>⟨_,h,rfl⟩
 | x::r,K,h=>by simp only [HX] at h;obtain ⟨y,h,e1⟩:=ag h;obtain ⟨ys,h,e2⟩:=UA r _ h;exact ⟨_,h,by simp only [yxd,e1,e2]⟩
theorem ah {H:Hp} {x:PV} {K:PV→Prop} (h:HV H x K):∃ q,K q∧purR H x=some q:=by
 cases x with
 | tup ps =>simp only [HV] at h;obtain ⟨ys,H',h,e⟩:=Ib ps H _ h;exact ⟨_,h,by simp only [purR,e]⟩
 | _ =>simp only [HV] at h;obtain ⟨y,H',h,e⟩:=Fo h;exact ⟨_,h,by simp only [purR,e]⟩
theorem LW {pu:Bool} {H:Hp} {x:PV} {K:PV→Hp→Prop} (h:Fj pu H x K):∃ y H',K y H'∧(if pu then yca H x else some (x,H))=some (y,H'):=by
 cases pu with
 | true=>simp only [Fj] at h;obtain ⟨y,H',h,e⟩:=Fo h;exact ⟨y,H',h,by simpa using e⟩
 | false=>exact ⟨_,_,h,by simp⟩
theorem Ic {pu:Bool} {esz:Nat}:∀ (l:List (Nat×Opd)) (rows:List PV) (H:Hp) (K:List PV→Hp→Prop),Cp E F pu esz rows H l K →
  ∃ rows' H',K rows' H'∧ygz E F pu esz rows H l=some (rows',H')
 | [],rows,H,K,h=>⟨_,_,h,rfl⟩
 | (i,x)::r,rows,H,K,h=>by
  simp only [Cp] at h;split at h
  ·rename_i p hp;obtain ⟨q,H',h,e⟩:=LW h;obtain ⟨h1,h⟩:=bJ.1 h;simp only [bQ] at h1;obtain ⟨rows',H2,h,e2⟩:=Ic r _ H' K h;refine ⟨rows',H2,h,?_⟩;simp only [ygz,hp,e];rw [Sj ⟨eJ h1.1.1,(show i+1≤rows.length from zZ h1.1.2),h1.2⟩];exact e2
  ·exact h.elim
theorem ai {op:BinOp} {k k':IntKind} {a b:Int} {K:PV→Prop} (h:Az op k k' a b K):∃ r,K r∧binV op (.int k a) (.int k' b)=some r:=by
 cases op<;>simp only [Az] at h
 case quo=>
  obtain ⟨h1,h2⟩:=bJ.1 h;obtain ⟨h3,h4⟩:=bJ.1 h2;have e1:k=k':=by simpa using h1
  have e2:¬b=0:=by simpa using h3
  exact ⟨_,h4,by simp [binV,e1,binI,e2]⟩
 case rem=>
  obtain ⟨h1,h2⟩:=bJ.1 h;obtain ⟨h3,h4⟩:=bJ.1 h2;have e1:k=k':=by simpa using h1
  have e2:¬b=0:=by simpa using h3
  exact ⟨_,h4,by simp [binV,e1,binI,e2]⟩
 case shl=>
  obtain ⟨h1,h2⟩:=bJ.1 h;have e1:¬b<0:=by simpa using h1
  exact ⟨_,h2,by simp only [binV,BT,e1,if_false]⟩
 case shr=>
  obtain ⟨h1,h2⟩:=bJ.1 h;have e1:¬b<0:=by simpa using h1
  exact ⟨_,h2,by simp only [binV,BT,e1,if_false]⟩
 all_goals
  obtain ⟨h1,h2⟩:=bJ.1 h;have e1:k=k':=by simpa using h1
  split at h2
  ·rename_i r hr;exact ⟨r,h2,by simp only [binV,e1,if_true];rw [← e1];exact hr⟩
  ·exact h2.elim
theorem Cv {n:Nat} {j:Int} {K:Nat→Prop}:∀ m,m≤n→xQ n j K m→∃ k:Nat,K k∧j=(k:Int)∧k<n
 | 0,_,h=>h.elim
 | m+1,hm,h=>by
  simp only [xQ] at h;obtain ⟨h1,h2⟩:=oE.1 h
  by_cases hj:j=((n-(m+1):Nat):Int)
  ·exact ⟨_,h1 (by simpa using hj),hj,by omega⟩
  ·exact Cv m (by omega) (h2 (by simpa using hj))
theorem UB:∀ (cs:List PV) (i:Nat),Fk cs=true→i<cs.length→cs[i]?=some (.int .u8 (aK (cs.getD i .nils)))
 | [],i,_,h=>by simp at h
 | x::r,i,hu,hi=>by
  cases x with
  | int k n=>
   cases k<;>simp only [Fk,gR] at hu
   cases i with
   | zero=>simp [aK]
   | succ i=>have:=UB r i hu (by simpa using hi);simpa using this
  | _=>simp [Fk] at hu
theorem aj {x:PV} {K:List PV→Prop} (h:LQ H x K):∃ ys,K ys∧yhm H x=some ys:=by
 unfold LQ at h;split at h
 ·exact ⟨_,h,rfl⟩
 ·exact ⟨_,h,rfl⟩
 ·exact ⟨_,h,rfl⟩
 ·split at h
  ·rename_i b hb;obtain ⟨h1,h2⟩:=bJ.1 h;obtain ⟨h3,h4⟩:=bJ.1 h2;exact ⟨_,h4,by simp only [yhm,hb];rw [Sj ⟨by simpa using h1,by simpa using h3⟩]⟩
  ·exact h.elim
 ·exact h.elim
theorem Id {pu:Bool} {esz bytes:Nat} {rows:List PV} {K:PV→Hp→Prop} (h:Cq H pu esz bytes rows K):∃ r H',K r H'∧ydf H pu esz bytes rows=some (r,H'):=by obtain ⟨h1,h2⟩:=bJ.1 h;exact ⟨_,_,h2,by simp only [ydf];rw [Sj (by simpa using h1)]⟩
def mN (H:Hp) (pu:Bool) (esz bytes:Nat) (ys:List PV):PV→Option (PV×Hp)
 | .nils=>if ys.isEmpty then some (.nils,H) else ydf H pu esz bytes ys
 | .emp=>if ys.isEmpty then some (.emp,H) else ydf H pu esz bytes ys
 | .own id lo len ext cap=>
  (match H[id]? with
   | some b=>if b.rows.length=ext∧b.pu=pu∧b.esz=esz∧lo+len≤ext then
    (if ys.isEmpty then some (.own id lo len ext cap,H) else lW H pu esz bytes ys id lo len ext cap b) else none
   | none=>none)
 | _=>none
theorem ak {md:Nat} {pu:Bool} {esz bytes:Nat} {s x:PV} {ys:List PV} {K:PV→Hp→Prop} (hy:yhm H x=some ys) (hh:kY esz ys=true) (hs:sG H pu x=true) (h:AA md H pu esz bytes s ys K) :
  ∃ r H',K r H'∧appV H pu esz bytes s x=some (r,H'):=by
 have e0:appV H pu esz bytes s x=mN H pu esz bytes ys s:=by simp only [appV,hy];rw [Sj ⟨hh,hs⟩];cases s<;>rfl
 rw [e0];clear e0 hy hs;unfold AA at h;split at h
 ·obtain ⟨h1,h2⟩:=oE.1 h
  cases hE:ys.isEmpty with
  | true=>exact ⟨_,_,h1 hE,by simp [mN,hE]⟩
  | false =>obtain ⟨r,H',hk,hf⟩:=Id (h2 hE);exact ⟨r,H',hk,by simp [mN,hE,hf]⟩
 ·obtain ⟨h1,h2⟩:=oE.1 h
  cases hE:ys.isEmpty with
  | true=>exact ⟨_,_,h1 hE,by simp [mN,hE]⟩
  | false =>obtain ⟨r,H',hk,hf⟩:=Id (h2 hE);exact ⟨r,H',hk,by simp [mN,hE,hf]⟩
 ·rename_i id lo len ext cap;split at h
  ·rename_i b hb;obtain ⟨h1,h⟩:=bJ.1 h;obtain ⟨h2,h⟩:=bJ.1 h;obtain ⟨h3,h⟩:=bJ.1 h;simp only [bQ,decide_eq_true_eq] at h1 h2 h3;obtain ⟨k1,k2⟩:=oE.1 h;have hc:b.rows.length=ext∧b.pu=pu∧b.esz=esz∧lo+len≤ext:=⟨h1,h2.1,h2.2,h3⟩
   cases hE:ys.isEmpty with
   | true=>exact ⟨_,_,k1 hE,by simp only [mN,hb];rw [Sj hc];simp [hE]⟩
   | false=>
    have h:=k2 hE
    suffices ∃ r H',K r H'∧lW H pu esz bytes ys id lo len ext cap b=some (r,H') by obtain ⟨r,H',hk,hf⟩:=this;exact ⟨r,H',hk,by simp only [mN,hb];rw [Sj hc];simp [hE,hf]⟩
    cases cap with
    | some c=>
     simp only at h;have key1:decide (len+ys.length≤c)=true→aA (!b.fz) (K (.own id lo (len+ys.length) ext (some c)) (H.set id { b with rows:=b.rows.take (lo+len)++(ys++b.rows.drop (lo+len+ys.length)) })) →
       ∃ r H',K r H'∧lW H pu esz bytes ys id lo len ext (some c) b=some (r,H'):=by
      intro e1 e2;obtain ⟨e3,e4⟩:=bJ.1 e2;refine ⟨_,_,e4,?_⟩;simp only [lW];rw [Sj (by simpa using e1),Sj (by simpa using e3)]
     have key2:decide (len+ys.length≤c)=false→Cq H pu esz bytes ((b.rows.drop lo).take len++ys) K →
       ∃ r H',K r H'∧lW H pu esz bytes ys id lo len ext (some c) b=some (r,H'):=by
      intro e1 e2;obtain ⟨r,H',hk,hf⟩:=Id e2;refine ⟨r,H',hk,?_⟩;simp only [lW];rw [Sk (by simpa using e1)];exact hf
     split at h
     ·obtain ⟨a1,a2⟩:=oE.1 h
      cases hd:decide (len+ys.length≤c) with
      | true=>exact key1 hd (a1 hd)
      | false=>exact key2 hd (a2 hd)
     ·obtain ⟨a1,a2⟩:=oE.1 h
      cases hd:decide (len+ys.length≤c) with
      | true=>exact key1 hd (a1 hd)
      | false=>exact key2 hd (a2 hd)
     ·obtain ⟨a1,a2⟩:=bJ.1 h;exact key2 (by simpa using a1) a2
     ·obtain ⟨a1,a2⟩:=bJ.1 h;exact key1 a1 a2
    | none=>
     simp only at h;obtain ⟨hfz,h⟩:=bJ.1 h;have hfz':¬b.fz=true:=by simpa using hfz
     have key1:decide (lo+len+ys.length≤ext)=true→K (.own id lo (len+ys.length) ext none) (H.set id { b with rows:=b.rows.take (lo+len)++(ys++b.rows.drop (lo+len+ys.length)) }) →
       ∃ r H',K r H'∧lW H pu esz bytes ys id lo len ext none b=some (r,H'):=by
      intro e1 e2;refine ⟨_,_,e2,?_⟩;simp only [lW];rw [Sk hfz',Sj (by simpa using e1)]
     have key3:decide (lo+len+ys.length≤ext)=false→aA (decide (lo=0)) (aA (decide (len=ext)) (aA (decide ((ext+ys.length+64)*(bytes+1)≤room))
        (K (.own id 0 (b.rows++ys).length (b.rows++ys).length none) (H.set id { b with rows:=b.rows++ys })))) →
       ∃ r H',K r H'∧lW H pu esz bytes ys id lo len ext none b=some (r,H'):=by
      intro e1 e2;obtain ⟨e3,e2⟩:=bJ.1 e2;obtain ⟨e4,e2⟩:=bJ.1 e2;obtain ⟨e5,e2⟩:=bJ.1 e2;simp only [decide_eq_true_eq] at e3 e4 e5;refine ⟨_,_,e2,?_⟩;simp only [lW];rw [Sk hfz',Sk (by simpa using e1),Sj ⟨e3,by omega,by rw [e4];exact e5⟩];have e6:b.rows.take len=b.rows:=wU (by omega);have e7:(b.rows++ys).length=len+ys.length:=by rw [hO,h1,e4]
      rw [e6,e7]
     have key4:decide (lo+len+ys.length≤ext)=false→aA (decide (lo=0)) (aA (decide (len≤ext)) (aA (decide ((len+ys.length+64)*(bytes+1)≤room))
        (K (.own id 0 (len+ys.length) (len+ys.length) none) (H.set id { b with rows:=b.rows.take len++ys })))) →
       ∃ r H',K r H'∧lW H pu esz bytes ys id lo len ext none b=some (r,H'):=by
      intro e1 e2;obtain ⟨e3,e2⟩:=bJ.1 e2;obtain ⟨e4,e2⟩:=bJ.1 e2;obtain ⟨e5,e2⟩:=bJ.1 e2;simp only [decide_eq_true_eq] at e3 e4 e5;refine ⟨_,_,e2,?_⟩;simp only [lW];rw [Sk hfz',Sk (by simpa using e1),Sj ⟨e3,e4,e5⟩]
     split at h
     ·obtain ⟨a1,a2⟩:=oE.1 h
      cases hd:decide (lo+len+ys.length≤ext) with
      | true=>exact key1 hd (a1 hd)
      | false=>exact key3 hd (a2 hd)
     ·obtain ⟨a1,a2⟩:=oE.1 h
      cases hd:decide (lo+len+ys.length≤ext) with
      | true=>exact key1 hd (a1 hd)
      | false=>exact key4 hd (a2 hd)
     ·obtain ⟨a1,a2⟩:=bJ.1 h;exact key1 a1 a2
     ·obtain ⟨a1,a2⟩:=bJ.1 h;exact key3 (by simpa using a1) a2
  ·exact h.elim
 ·exact h.elim
theorem al {esz:Nat} {lo hi mx:Option Int} {x:PV} {K:PV→Prop} (h:LR H esz lo hi mx x K):∃ r,K r∧yhn H esz lo hi mx x=some r:=by
 unfold LR at h;split at h
 ·obtain ⟨h1,h2⟩:=bJ.1 h;simp only [bQ,decide_eq_true_eq] at h1;exact ⟨_,h2,by simp only [yhn];rw [Sj h1]⟩
 ·obtain ⟨h1,h2⟩:=bJ.1 h;simp only [bQ,decide_eq_true_eq] at h1;exact ⟨_,h2,by simp only [yhn];rw [Sj h1]⟩
 ·rename_i rows;simp only at h;split at h
  ·obtain ⟨h1,h⟩:=bJ.1 h;obtain ⟨h2,h⟩:=bJ.1 h;obtain ⟨h3,h⟩:=bJ.1 h;obtain ⟨h4,h⟩:=bJ.1 h;simp only [qA,decide_eq_true_eq] at h1 h2 h3 h4;exact ⟨_,h,by simp only [yhn];rw [Sj ⟨h1,h2,h3,h4⟩]⟩
  ·rename_i m;obtain ⟨h1,h⟩:=bJ.1 h;obtain ⟨h2,h⟩:=bJ.1 h;obtain ⟨h3,h⟩:=bJ.1 h;obtain ⟨h4,h⟩:=bJ.1 h;obtain ⟨h5,h⟩:=bJ.1 h;obtain ⟨k1,k2⟩:=oE.1 h;simp only [qA,decide_eq_true_eq] at h1 h2 h3 h4 h5
   by_cases hl:lo.getD 0=m
   ·exact ⟨_,k1 (by simpa using hl),by simp only [yhn];rw [Sj ⟨h1,h2,h3,h4,h5⟩,Sj hl]⟩
   ·exact ⟨_,k2 (by simpa using hl),by simp only [yhn];rw [Sj ⟨h1,h2,h3,h4,h5⟩,Sk hl]⟩
 ·rename_i id lo0 len ext cap;simp only at h;split at h
  ·rename_i b hb;obtain ⟨h0,h⟩:=bJ.1 h;split at h
   ·obtain ⟨h1,h⟩:=bJ.1 h;obtain ⟨h2,h⟩:=bJ.1 h;obtain ⟨h3,h⟩:=bJ.1 h;simp only [qA,decide_eq_true_eq] at h1 h2 h3;exact ⟨_,h,by simp only [yhn,hb,h0,Bool.true_eq_false,if_false];rw [Sj ⟨h1,h2,h3⟩]⟩
   ·obtain ⟨h1,h⟩:=bJ.1 h;obtain ⟨h2,h⟩:=bJ.1 h;obtain ⟨h3,h⟩:=bJ.1 h;obtain ⟨h4,h⟩:=bJ.1 h;simp only [qA,decide_eq_true_eq] at h1 h2 h3 h4;exact ⟨_,h,by simp only [yhn,hb,h0,Bool.true_eq_false,if_false];rw [Sj ⟨h1,h2,h3,h4⟩]⟩
  ·exact h.elim
 ·exact h.elim
theorem UC {sh:Sh} {rows:List PV} {i:Nat} {K:PV→Prop} (h:tV sh rows i K):∃ r,K r∧rows[i]?=some r:=by
 have key:aA (decide (i<rows.length)) (aA (aF sh (rows.getD i .nils)) (K (oF sh (rows.getD i .nils))))→∃ r,K r∧rows[i]?=some r:=by
  intro h;obtain ⟨h1,h⟩:=bJ.1 h;obtain ⟨h2,h⟩:=bJ.1 h;have hi:i<rows.length:=by simpa using h1
  rw [Uj _ _ h2] at h;refine ⟨_,h,?_⟩;rw [cN hi,dH,cN hi];rfl
 unfold tV at h;split at h
 ·split at h
  ·rename_i r hr;exact ⟨r,h,hr⟩
  ·exact h.elim
 ·exact key h
theorem am {a:An} {o:AOp} (hc:oD o=false) (h:iN E callK a F H o K):Uy E F H o K:=by
 cases o
 case pick c x y=>
  simp only [iN] at h;split at h
  ·rename_i t ht;obtain ⟨h1,h2⟩:=oE.1 h
   cases t with
   | true=>
    have h:=h1 rfl;split at h
    ·rename_i p hp;exact ⟨⟨some (.v p),none,H⟩,h,0,fun m _=>by simp only [yar,ht,hp];rfl⟩
    ·exact h.elim
   | false=>
    have h:=h2 rfl;split at h
    ·rename_i p hp;exact ⟨⟨some (.v p),none,H⟩,h,0,fun m _=>by simp only [yar,ht,hp];rfl⟩
    ·exact h.elim
  ·exact h.elim
 case bin op x y=>
  simp only [iN] at h;split at h
  ·rename_i k p k' q hx hy;obtain ⟨r,hk,hr⟩:=ai h;exact ⟨⟨some (.v r),none,H⟩,hk,0,fun m _=>by simp only [yar,hx,hy,hr];rfl⟩
  ·exact h.elim
 case eqN neg x=>
  simp only [iN] at h;split at h
  ·rename_i hx;exact ⟨⟨some (.v (.bool (bif neg then false else true))),none,H⟩,h,0,fun m _=>by simp only [yar,hx];cases neg<;>rfl⟩
  ·rename_i b hx;exact ⟨⟨some (.v (.bool (bif neg then !b else b))),none,H⟩,h,0,fun m _=>by simp only [yar,hx];cases neg<;>rfl⟩
  ·rename_i rows hx;obtain ⟨h1,h⟩:=bJ.1 h
   cases rows with
   | nil=>simp at h1
   | cons q l=>exact ⟨⟨some (.v (.bool neg)),none,H⟩,h,0,fun m _=>by simp only [yar,hx];cases neg<;>rfl⟩
  ·rename_i hx;exact ⟨⟨some (.v (.bool neg)),none,H⟩,h,0,fun m _=>by simp only [yar,hx];cases neg<;>rfl⟩
  ·exact h.elim
 case load agg sz x=>
  simp only [iN] at h;split at h
  ·rename_i id ext i off hx;split at h
   ·rename_i b hb;obtain ⟨h1,h⟩:=bJ.1 h;obtain ⟨row,h,hr⟩:=UC h;split at h
    ·rename_i p hp;exact ⟨⟨some (.v p),none,H⟩,h,0,fun m _=>by simp only [yar,hx,hb];rw [Sj (by simpa using h1)];simp only [hr,hp];rfl⟩
    ·exact h.elim
   ·exact h.elim
  ·exact LT rfl h
 case store sz x y=>
  simp only [iN] at h;split at h
  ·rename_i id ext i off hx;split at h
   ·rename_i p hp;split at h
    ·rename_i b0 hb0;obtain ⟨q,H',h,hq⟩:=LW h;split at h
     ·rename_i b hb;obtain ⟨h1,h⟩:=bJ.1 h;obtain ⟨h2,h⟩:=bJ.1 h;obtain ⟨row,h,hr⟩:=UC h;split at h
      ·rename_i row' hrow;refine ⟨⟨none,none,H'.set id { b with rows:=b.rows.set i row' }⟩,h,0,fun m _=>?_⟩;have e1:b.rows.length=ext:=by simpa using h1
       have e2:b.fz=false:=by simpa using h2
       simp only [yar,hp,hx,hb0,hq,hb,hr,hrow];rw [Sj ⟨e1,e2⟩]
      ·exact h.elim
     ·exact h.elim
    ·exact h.elim
   ·exact h.elim
  ·exact LT rfl h
 case iad esz x i=>
  simp only [iN] at h;split at h
  ·rename_i rows n hx hi;obtain ⟨h1,h⟩:=bJ.1 h;obtain ⟨h2,h⟩:=bJ.1 h;obtain ⟨h3,h⟩:=bJ.1 h;obtain ⟨h4,h⟩:=bJ.1 h;simp only [decide_eq_true_eq] at h1 h2;rw [Uj _ _ h3] at h h4;have hlt:n.toNat<rows.length:=by omega
   have e:rows[n.toNat]?=some (rows.getD n.toNat .nils):=by rw [cN hlt,dH,cN hlt];rfl
   refine ⟨⟨_,_,_⟩,h,0,fun m _=>?_⟩;simp only [yar,hx,hi];rw [Sj ⟨h1,h2⟩];simp only [e];rw [Sj (by simpa using h4)];rfl
  ·rename_i id lo len ext cap n hx hi;split at h
   ·rename_i b hb;obtain ⟨h1,h⟩:=bJ.1 h;obtain ⟨h2,h⟩:=bJ.1 h;obtain ⟨h3,h⟩:=bJ.1 h;simp only [decide_eq_true_eq] at h1 h2 h3;refine ⟨⟨_,_,_⟩,h,0,fun m _=>?_⟩;simp only [yar,hx,hi];rw [Sj ⟨h1,h2⟩];simp only [hb];rw [Sj h3];rfl
   ·exact h.elim
  ·rename_i id ext r off mm e j hx hi;obtain ⟨h1,h⟩:=bJ.1 h;have h1:e=esz:=eJ h1;subst h1;obtain ⟨k,h',rfl,hk⟩:=Cv mm (bW _) h;clear h;refine ⟨⟨_,_,_⟩,h',0,fun m _=>?_⟩;simp only [yar,hx,hi];rw [Sj ⟨by omega,by omega,by trivial⟩];simp [outV]
  ·exact h.elim
 case iadA n esz x i=>
  simp only [iN] at h;split at h
  ·rename_i s o j hx hi;obtain ⟨k,h',rfl,hk⟩:=Cv n (bW _) h;clear h;refine ⟨⟨_,_,_⟩,h',0,fun m _=>?_⟩;simp only [yar,hx,hi];rw [Sj ⟨by omega,by omega⟩];simp
  ·rename_i id e r o j hx hi;obtain ⟨k,h',rfl,hk⟩:=Cv n (bW _) h;clear h;refine ⟨⟨_,_,_⟩,h',0,fun m _=>?_⟩;simp only [yar,hx,hi];rw [Sj ⟨by omega,by omega⟩];simp [outV]
  ·rename_i rows r o j hx hi;obtain ⟨k,h',rfl,hk⟩:=Cv n (bW _) h;clear h;refine ⟨⟨_,_,_⟩,h',0,fun m _=>?_⟩;simp only [yar,hx,hi];rw [Sj ⟨by omega,by omega⟩];simp [outV]
  ·exact h.elim
 case idx agg n esz x i=>
  simp only [iN] at h;split at h
  ·rename_i cs j hx hi;split at h
   ·obtain ⟨h0,k0⟩:=bJ.1 h;obtain ⟨h1,k1⟩:=bJ.1 k0;obtain ⟨h2,k2⟩:=bJ.1 k1;clear h k0 k1;simp only [bQ,decide_eq_true_eq,jR] at h0 h1 h2;obtain ⟨ha,he,hn,hu⟩:=h0;have he:=eJ he;have hn:=eJ hn;subst ha;subst he;refine ⟨⟨_,_,_⟩,k2,0,fun m _=>?_⟩;simp only [yar,hx,hi];rw [Sj ⟨h1,h2⟩];have hlt:j.toNat<cs.length:=by omega
    have hcell:cs[j.toNat]?=some (.int .u8 (aK (cs.getD j.toNat .nils))):=UB cs _ hu hlt;simp only [yfU,Nat.mul_one,PV.cells,gR,if_false,hcell];rfl
   obtain ⟨k,h',rfl,hk⟩:=Cv n (bW _) h;clear h;split at h'
   ·rename_i p hp;refine ⟨⟨_,_,_⟩,h',0,fun m _=>?_⟩;simp only [yar,hx,hi];rw [Sj ⟨by omega,by omega⟩];simp only [cE,hp];rfl
   ·exact h'.elim
  ·exact h.elim
 case slc esz x lo hi mx=>
  simp only [iN] at h;split at h
  ·rename_i p l hh m hx hl hhi hm;split at h
   ·exact h.elim
   ·rename_i hb;obtain ⟨r,h,hr⟩:=al h;refine ⟨⟨_,_,_⟩,h,0,fun _ _=>?_⟩;simp only [yar,hx,hl,hhi,hm];rw [Sk (by rw [hb];exact Bool.false_ne_true)];simp only [hr];rfl
  ·exact h.elim
 case mkSl pu esz bytes z l c=>
  simp only [iN] at h;split at h
  ·rename_i l c hl hc;obtain ⟨h1,h⟩:=bJ.1 h;obtain ⟨h2,h⟩:=bJ.1 h;obtain ⟨h3,h⟩:=bJ.1 h;simp only [decide_eq_true_eq] at h1 h2 h3;refine ⟨⟨_,_,_⟩,h,0,fun _ _=>?_⟩;simp only [yar,hl,hc];rw [Sj ⟨h1,h2,h3⟩];rfl
  ·exact h.elim
 case app pu esz bytes s x=>
  simp only [iN] at h;split at h
  ·rename_i s x hs hx;obtain ⟨ys,h,hy⟩:=aj h;obtain ⟨h1,h⟩:=bJ.1 h;obtain ⟨h2,h⟩:=bJ.1 h;obtain ⟨r,H',h,hr⟩:=ak hy h1 h2 h;refine ⟨⟨_,_,_⟩,h,0,fun _ _=>?_⟩;simp only [yar,hs,hx,hr];rfl
  ·exact h.elim
 case appZ pu esz bytes z s n=>
  simp only [iN] at h;split at h
  ·rename_i k hs hk;obtain ⟨h1,h⟩:=bJ.1 h;have h1:0≤k:=by simpa using h1
   obtain ⟨ha,hb⟩:=oE.1 h
   cases h0:decide (k.toNat=0) with
   | true=>
    refine ⟨⟨_,_,_⟩,ha h0,0,fun _ _=>?_⟩;have h0:k.toNat=0:=by simpa using h0
    simp only [yar,hs,hk,appZ];rw [Sj h1,Sj h0];rfl
   | false=>
    obtain ⟨r,H',h2,hr⟩:=Id (hb h0);refine ⟨⟨_,_,_⟩,h2,0,fun _ _=>?_⟩;have h0:¬k.toNat=0:=by simpa using h0
    simp only [yar,hs,hk,appZ];rw [Sj h1,Sk h0,hr];rfl
  ·exact h.elim
 case clr pu esz z x=>
  simp only [iN] at h;split at h
  ·rename_i hx;exact ⟨⟨_,_,_⟩,h,0,fun _ _=>by simp only [yar,hx,clrV];rfl⟩
  ·rename_i hx;exact ⟨⟨_,_,_⟩,h,0,fun _ _=>by simp only [yar,hx,clrV];rfl⟩
  ·rename_i hx;exact ⟨⟨_,_,_⟩,h,0,fun _ _=>by simp only [yar,hx,clrV];rfl⟩
  ·rename_i id lo len ext cap hx;split at h
   ·rename_i b hb;obtain ⟨ha,hb2⟩:=oE.1 h
    cases len with
    | zero=>exact ⟨⟨_,_,_⟩,ha rfl,0,fun _ _=>by simp only [yar,hx,clrV];rfl⟩
    | succ len =>have h:=hb2 (by simp);obtain ⟨h1,h⟩:=bJ.1 h;obtain ⟨h2,h⟩:=bJ.1 h;obtain ⟨h3,h⟩:=bJ.1 h;obtain ⟨h4,h⟩:=bJ.1 h;obtain ⟨h5,h⟩:=bJ.1 h;simp only [decide_eq_true_eq,jR,beq_iff_eq] at h1 h2 h3 h4;have h5:=eJ h5;refine ⟨⟨_,_,_⟩,h,0,fun _ _=>?_⟩;simp only [yar,hx,clrV,hb];rw [Sj ⟨h1,h2,h3,h4,h5⟩];rfl
   ·exact h.elim
  ·exact h.elim
 case boxH pu esz x=>
  simp only [iN] at h;split at h
  ·rename_i p hp;obtain ⟨q,H',h,hq⟩:=LW h;obtain ⟨h1,h⟩:=bJ.1 h;simp only [bQ] at h1;refine ⟨⟨_,_,_⟩,h,0,fun _ _=>?_⟩;simp only [yar,hp,hq];rw [Sj ⟨eJ h1.1,h1.2⟩]
  ·exact h.elim
 case bSl pu esz z len parts=>
  simp only [iN] at h;split at h
  ·exact ⟨⟨_,_,_⟩,h,0,fun _ _=>by simp only [yar,if_true];rfl⟩
  ·obtain ⟨rows,H',h,e⟩:=Ic _ _ _ _ h;refine ⟨⟨_,_,_⟩,h,0,fun _ _=>?_⟩;simp only [yar,e];rfl
 case buildN pu esz z len parts=>
  simp only [iN] at h;split at h
  ·exact ⟨⟨_,_,_⟩,h,0,fun _ _=>by simp only [yar,if_true];rfl⟩
  ·obtain ⟨rows,H',h,e⟩:=Ic _ _ _ _ h;refine ⟨⟨_,_,_⟩,h,0,fun _ _=>?_⟩;simp only [yar,e];rfl
 case bD esz z len parts=>
  simp only [iN] at h;split at h
  ·exact ⟨⟨_,_,_⟩,h,0,fun _ _=>by simp only [yar,if_true];rfl⟩
  ·obtain ⟨rows,H',h,e⟩:=Ic _ _ _ _ h;refine ⟨⟨_,_,_⟩,h,0,fun _ _=>?_⟩;simp only [yar,e];rfl
 case mvD x=>
  simp only [iN] at h;split at h
  ·rename_i p hp;obtain ⟨y,H',h,e⟩:=LU h;split at h
   ·exact ⟨⟨_,_,_⟩,h,0,fun _ _=>by simp only [yar,hp,e];rfl⟩
   ·exact h.elim
  ·exact h.elim
 case call f args=>simp [oD] at hc
 all_goals exact LT rfl h
theorem UD {P:EP} (hP:aQ P E) (hG:Good P callK) {a:An} {o:AOp} (h:iN E callK a F H o K):ae P F H o K:=by
 cases hc:oD o with
 | false =>obtain ⟨out,hk,m0,hm⟩:=am hc h;refine ⟨out,hk,0,fun n e m _ hp _=>?_⟩;have hl:=hP n e hp;unfold fG at hl;rw [hl,aa hc _ (ybF E m0)];exact hm m0 (bW _)
 | true=>
  cases o with
  | call f args=>
   simp only [iN] at h;split at h
   ·rename_i g vs hg hvs;obtain ⟨r,H',h,m0,hm⟩:=hG _ _ _ _ h;refine ⟨⟨_,_,_⟩,h,m0,fun n e m hn hp hle=>?_⟩;have hl:=hP n e hp;have e1:evV e F f=some g:=by unfold fG at hl;rw [hl,uA];exact hg
    have e2:evs e F args=some vs:=by unfold fG at hl;rw [hl,Fm];exact hvs
    simp only [yar,e1,e2,hm n e m hn hp hle];rfl
   ·exact h.elim
  | _=>simp [oD] at hc
theorem Cw:∀ (F:aG) (s:Nat) (x:FV),fget F s=some x→gV F s x=F
 | [],_,_,h=>by simp [fget] at h
 | (k,y)::r,s,x,h=>by
  simp only [fget] at h;simp only [gV]
  by_cases hk:k=s
  ·subst hk;simp only [if_true,bV] at h;subst h;simp
  ·rw [Sk hk] at h;have:Nat.beq k s=false:=by
    cases e:Nat.beq k s with
    | true=>exact absurd (eJ e) hk
    | false=>rfl
   rw [this,Cw r s x h];rfl
theorem UE {c:Opd} {b:Bool} (h:evV E F c=some (.bool b)):tW F c b=F:=by
 cases c with
 | t s=>
  simp only [evV,ev] at h;simp only [tW];apply Cw
  cases e:fget F s with
  | none=>simp [e] at h
  | some fv=>cases fv<;>simp [e] at h;rw [h]
 | _=>rfl
theorem yAD {g:Option (Nat×Bool)} {yes no:aG→Prop} (h:HY F g yes no):(yeh F g=some true∧yes F)∨(yeh F g=some false∧no F):=by
 unfold HY at h;split at h
 ·exact .inl ⟨rfl,h⟩
 ·rename_i s want;split at h
  ·rename_i b hb;have e:yeh F (some (s,want))=some (b==want):=by simp only [yeh,hb]
   split at h
   ·cases b with
    | true=>have h:yes (gV F s (.v (.bool true))):=h;rw [Cw _ _ _ hb] at h;exact .inl ⟨by rw [e];rfl,h⟩
    | false=>have h:no (gV F s (.v (.bool false))):=h;rw [Cw _ _ _ hb] at h;exact .inr ⟨by rw [e];rfl,h⟩
   ·cases b with
    | true=>have h:no (gV F s (.v (.bool true))):=h;rw [Cw _ _ _ hb] at h;exact .inr ⟨by rw [e];rfl,h⟩
    | false=>have h:yes (gV F s (.v (.bool false))):=h;rw [Cw _ _ _ hb] at h;exact .inl ⟨by rw [e];rfl,h⟩
  ·rename_i hb;exact .inr ⟨by simp only [yeh,hb],h⟩
  ·exact h.elim
theorem LX {P:EP} (hP:aQ P E) (hG:Good P callK) {an:List An}:∀ (l:List AO) (i:Nat) (F:aG) (H:Hp) (K:aG→Hp→Prop),qO E callK an l i F H K →
  ∃ F' H',K F' H'∧∃ m0,∀ n e m,m0≤n→P n e→m0≤m→lY e (ybF e m) l F H=some (F',H')
 | [],i,F,H,K,h=>⟨F,H,h,0,fun _ _ _ _ _ _=>rfl⟩
 | o::r,i,F,H,K,h=>by
  simp only [qO] at h;rcases yAD h with ⟨hg,h⟩ | ⟨hg,h⟩
  ·obtain ⟨out,h,m0,hm⟩:=UD hP hG h;split at h
   ·exact h.elim
   ·rename_i F' hF';rw [HZ] at h;obtain ⟨F2,H2,hk,m1,hm1⟩:=LX hP hG r (i+1) F' out.h K h;refine ⟨F2,H2,hk,max m0 m1,fun n e m hn hp hle=>?_⟩;have e0:yja e (ybF e m) F H o=some (F',out.h):=by
     simp only [yja,hg,hm n e m (by omega) hp (by omega),hF',Option.map]
    simp only [lY,e0];exact hm1 n e m (by omega) hp (by omega)
  ·obtain ⟨F2,H2,hk,m1,hm1⟩:=LX hP hG r (i+1) (Cr F o.dst) H K h;refine ⟨F2,H2,hk,m1,fun n e m hn hp hle=>?_⟩;have e0:yja e (ybF e m) F H o=some (Cr F o.dst,H):=by
    simp only [yja,hg]
    cases o.dst<;>rfl
   simp only [lY,e0];exact hm1 n e m hn hp hle
structure Cov (p q:FP):Prop where
 rd:q.rd=p.rd
 wr:q.wr=p.wr
 h:p.all=true∨((∀ x,x∈q.hr→x∈p.hr)∧(∀ x,x∈q.hw→x∈p.hw)∧(q.push=true→p.push=true)∧q.all=false)
theorem Cov.tight (p:FP) (H H1:Hp):Cov p (p.tight H H1):=by
 unfold FP.tight
 cases h:p.all with
 | true=>exact ⟨rfl,rfl,.inl h⟩
 | false=>exact ⟨rfl,rfl,.inr ⟨fun _ h=>h,fun _ h=>h,fun h=>h,h⟩⟩
def yBF:List FP→List FP→Prop
 | [],[]=>True
 | p::r,q::s=>Cov p q∧yBF r s
 | _,_=>False
theorem yBF.get:∀ (l l':List FP),yBF l l'→∀ (i:Nat) (p:FP),l[i]?=some p→∃ q:FP,l'[i]?=some q∧Cov p q
 | [],_,_,i,p,e=>by simp at e
 | p::r,[],h,_,_,_=>h.elim
 | p::r,q::s,h,i,x,e=>by
  obtain ⟨h1,h2⟩:=h
  cases i with
  | zero=>simp at e;subst e;exact ⟨q,rfl,h1⟩
  | succ i=>simp at e;simpa using yBF.get r s h2 i x e
theorem LY:∀ l:List Nat,meets l []=false
 | []=>rfl
 | x::r=>by simp only [meets,LY r];rfl
theorem LZ:∀ (l m:List Nat),meets l m=true↔∃ x,x∈l∧x∈m
 | [],m=>by simp [meets]
 | y::r,m=>by
  simp only [meets,qA,LZ r m,List.elem_eq_mem,decide_eq_true_eq,qAq];constructor
  ·rintro (h | ⟨x,h1,h2⟩)
   ·exact ⟨y,.inl rfl,h⟩
   ·exact ⟨x,.inr h1,h2⟩
  ·rintro ⟨x,rfl | h1,h2⟩
   ·exact .inl h2
   ·exact .inr ⟨x,h1,h2⟩
theorem Ma {a b a' b':List Nat} (h:meets a b=false) (ha:∀ x,x∈a'→x∈a) (hb:∀ x,x∈b'→x∈b):meets a' b'=false:=by
 cases e:meets a' b' with
 | false=>rfl
 | true=>
  obtain ⟨x,h1,h2⟩:=(LZ _ _).1 e;have:meets a b=true:=(LZ _ _).2 ⟨x,ha x h1,hb x h2⟩;rw [h] at this
  cases this
theorem UF {a:List Nat} (h:∀ x,x∈a→x∈([]:List Nat)):a=[]:=by
 cases a with
 | nil=>rfl
 | cons x r=>exact absurd (h x eH) (by simp)
theorem ap {p q p' q':FP} (h:sI p q=false) (hp:Cov p p') (hq:Cov q q'):sI p' q'=false:=by
 have hpx:∀ {x x':FP},x.heapy=false→Cov x x'→x'.push=false∧x'.all=false∧x'.hr=[]∧x'.hw=[]:=by
  intro x x' hx hc;simp only [FP.heapy,wW,Bool.not_eq_false',List.isEmpty_iff] at hx;obtain ⟨⟨⟨h1,h2⟩,h3⟩,h4⟩:=hx;rcases hc.h with h | ⟨k1,k2,k3,k4⟩
  ·rw [h2] at h;cases h
  ·rw [h3] at k1;rw [h4] at k2;refine ⟨?_,k4,UF k1,UF k2⟩
   cases e:x'.push with
   | false=>rfl
   | true=>rw [k3 e] at h1;cases h1
 simp only [sI,wW] at h;obtain ⟨⟨⟨⟨⟨⟨⟨⟨A,B⟩,C⟩,D⟩,E⟩,G⟩,I⟩,J⟩,K⟩:=h;have A':meets p'.wr q'.rd=false:=by rw [hp.wr,hq.rd];exact A
 have B':meets p'.wr q'.wr=false:=by rw [hp.wr,hq.wr];exact B
 have C':meets q'.wr p'.rd=false:=by rw [hp.rd,hq.wr];exact C
 cases ea:p.all with
 | true =>rw [ea,gH] at D;obtain ⟨h1,h2,h3,h4⟩:=hpx D hq;simp [sI,A',B',C',h1,h2,h3,h4,LY,meets,FP.heapy]
 | false=>
  cases eb:q.all with
  | true =>rw [eb,gH] at E;obtain ⟨h1,h2,h3,h4⟩:=hpx E hp;simp [sI,A',B',C',h1,h2,h3,h4,LY,meets,FP.heapy]
  | false=>
   rcases hp.h with h|⟨k1,k2,k3,k4⟩
   ·rw [ea] at h;cases h
   rcases hq.h with h|⟨l1,l2,l3,l4⟩
   ·rw [eb] at h;cases h
   have G':(p'.push&&q'.push)=false:=by
    cases e1:p'.push with
    | false=>rfl
    | true=>
     cases e2:q'.push with
     | false=>rfl
     | true=>rw [k3 e1,l3 e2] at G;cases G
   simp only [sI,A',B',C',k4,l4,jS,G',Ma I k2 l1,Ma J k2 l2,Ma K l2 k1,Bool.or_self]
theorem UG {l l':List FP} (ht:yBF l l'):∀ (pairs:List (Nat×Nat)),yjb l pairs=true→yjb l' pairs=true
 | [],_=>rfl
 | (i,j)::r,h=>by
  simp only [yjb,bQ] at h ⊢;refine ⟨?_,UG ht r h.2⟩;have h1:=h.1;split at h1
  ·rename_i p q e1 e2;obtain ⟨p',k1,c1⟩:=yBF.get l l' ht i p e1;obtain ⟨q',k2,c2⟩:=yBF.get l l' ht j q e2;rw [k1,k2];simp only [jR] at h1 ⊢;exact ap h1 c1 c2
  ·cases h1
theorem Fp {E e:Env} (h:fG E e) (f:PV) (args:List PV):ynY e f args=ynY E f args:=by unfold fG at h;rw [h];rfl
theorem aq {p q:PV} {H H1:Hp} (h:yca H p=some (q,H1)):EffI (cO p) H H1 H H1:=by
 obtain ⟨H1',e,k⟩:=Cj (H':=H) (fun _ _=>rfl) h;rw [h] at e
 cases e
 exact k
theorem Mb:∀ (l ps:List PV) (H H1:Hp),ya3 H l=some (ps,H1)→H1.length=H.length∧∀ id,id∉eO l→H1[id]?=H[id]?
 | [],ps,H,H1,h=>by simp only [ya3,bV,Prod.mk.injEq] at h;rw [← h.2];exact ⟨rfl,fun _ _=>rfl⟩
 | x::r,ps,H,H1,h=>by
  simp only [ya3] at h;split at h
  ·rename_i y H2 hy;split at h
   ·rename_i ys H3 hys;simp only [bV,Prod.mk.injEq] at h;obtain ⟨_,rfl⟩:=h;obtain ⟨l1,o1⟩:=Mb r ys H2 _ hys;have k:=aq hy;refine ⟨l1.trans k.len.1,fun id hid=>?_⟩;simp only [eO,qA4,not_or] at hid;rw [o1 id hid.2,(k.out id hid.1).1]
   ·cases h
  ·cases h
theorem ar {call:Nat→List PV→Hp→Option (PV×Hp)} {x:LocC} {H H1:Hp} {r:PV} (h:BU call x H=some (r,H1)):∀ id,id∈cT 0 H H1→id∈x.id::eO (x.all.set x.j (.int .i64 0)):=by
 intro id hm;unfold BU at h;split at h
 ·rename_i az H' hp;split at h
  ·rename_i b hb;split at h
   ·split at h
    ·rename_i q rows hq;simp only [bV,Prod.mk.injEq] at h;obtain ⟨_,rfl⟩:=h;obtain ⟨l1,o1⟩:=Mb _ _ _ _ hp
     by_cases hi:id=x.id
     ·rw [hi];exact eH
     ·by_cases hj:id∈eO (x.all.set x.j (.int .i64 0))
      ·exact eE _ hj
      ·refine absurd hm ?_;have:=LH 0 H (H'.set x.id { b with rows:=rows }) (by simp [l1]) id (by
        rw [rW (fun e=>hi e.symm),o1 id hj])
       simpa using this
    ·cases h
   ·cases h
  ·cases h
 ·cases h
theorem Mc {H H1:Hp} {l:List Nat} (h1:H1.length=H.length) (h2:∀ id,id∉l→H1[id]?=H[id]?):∀ id,id∈cT 0 H H1→id∈l:=by
 intro id hm
 by_cases hj:id∈l
 ·exact hj
 ·refine absurd hm ?_;have:=LH 0 H H1 h1 id (h2 id hj);simpa using this
theorem au {e:Env} {call:Nat→List PV→Hp→Option (PV×Hp)} {n:Nat} {first captured vs:List PV} {H H1:Hp} {r:PV} (hq:e.qui n=true) (h:nX e call (.fn (.func n) first captured) vs H=some (r,H1)):∀ id,id∈cT 0 H H1→id∈eO (first++vs++captured):=by
 simp only [nX,hq,if_true] at h;split at h
 ·split at h
  ·split at h
   ·split at h
    ·cases h
     exact Mc rfl fun _ _=>rfl
    ·cases h
   ·cases h
  ·cases h
 ·split at h
  ·rename_i x hx
   cases h
   split at hx
   ·rename_i az H' hp;obtain ⟨l1,o1⟩:=Mb _ _ _ _ hp;split at hx
    ·split at hx
     ·cases hx
      exact Mc rfl fun _ _=>rfl
     ·cases hx
      exact Mc l1 o1
    ·cases hx
   ·cases hx
  ·cases h
theorem aw {e:Env} (hl:fG E e) {call:Nat→List PV→Hp→Option (PV×Hp)} {F:aG} {H:Hp} {o:AOp} {out:Out} (h:yar e call F H o=some out) (a b _ _:List Nat) :
  Cov ⟨a++(xR E F H o).rd,b++(xR E F H o).wr,(xR E F H o).hr,(xR E F H o).hw,(xR E F H o).push,(xR E F H o).all⟩
   ((⟨a++(aR E F H o).rd,b++(aR E F H o).wr,(aR E F H o).hr,(aR E F H o).hw,(aR E F H o).push,(aR E F H o).all⟩:FP).tight H out.h):=by
 unfold xR;split
 ·rename_i f az
  cases hq:sH E F f az with
  | true=>exact Cov.tight _ _ _
  | false=>
  rw [cond_false];split
  ·rename_i l hli;unfold yIa at hli;split at hli
   ·rename_i g vs hg hvs;have hg':evV e F f=some g:=by unfold fG at hl;rw [hl,uA];exact hg
    have hv':evs e F az=some vs:=by unfold fG at hl;rw [hl,Fm];exact hvs
    simp only [yar,hg',hv'] at h;split at h
    ·rename_i r H1 hr
     cases h
     have key:∀ id,id∈cT 0 H H1→id∈l:=by
      split at hli
      ·rename_i x hx
       cases hli
       simp only [ykc,(Fp hl g vs).trans hx] at hr;exact ar hr
      ·rename_i hx;simp only [ykc,(Fp hl g vs).trans hx] at hr;split at hli
       ·rename_i n first captured
        cases hqu:E.qui n with
        | false=>rw [hqu] at hli;cases hli
        | true=>
         rw [hqu] at hli
         cases hli
         have:e.qui n=true:=by unfold fG at hl;rw [hl];exact hqu
         exact au this hr
       ·cases hli
     simp only [aR,hq,pC,FP.tight,if_true];exact ⟨rfl,rfl,.inr ⟨fun _ h=>h,key,fun h=>h,rfl⟩⟩
    ·cases h
   ·cases hli
  ·exact Cov.tight _ _ _
 ·exact Cov.tight _ _ _
theorem Md {P:EP} (hP:aQ P E) (hG:Good P callK) {an:List An} {F0:aG} {l0:List AO} {pairs:List (Nat×Nat)}:∀ (l:List AO) (i:Nat) (F:aG) (H:Hp) (ps:List FP) (K:aG→Hp→Prop),oG E callK an F0 l0 pairs l i F H ps K →
  ∃ F' H' qs,K F' H'∧yjb (ps.reverse++qs) pairs=true∧BX F0 l0 l0=true∧∃ m0,∀ n e m,m0≤n→P n e→m0≤m→∃ qt,yBF qs qt∧yn3 e (ybF e m) l F H=some (F',H',qt)
 | [],i,F,H,ps,K,h=>by simp only [oG] at h;obtain ⟨h1,h⟩:=bJ.1 h;simp only [bQ] at h1;exact ⟨F,H,[],h,by simpa using h1.1,h1.2,0,fun _ _ _ _ _ _=>⟨[],trivial,rfl⟩⟩
 | o::r,i,F,H,ps,K,h=>by
  simp only [oG] at h;have hfp:∀ n e,P n e→∀ F H,yfd e F H o=yfd E F H o:=by
   intro n e hp F H;have hl:=hP n e hp;unfold fG at hl;rw [hl];simp only [yfd,Z9]
  rcases yAD h with ⟨hg,h⟩|⟨hg,h⟩
  ·obtain ⟨out,h,m0,hm⟩:=UD hP hG h;split at h
   ·exact h.elim
   ·rename_i F' hF';rw [HZ] at h;obtain ⟨F2,H2,qs,hk,ha,hb,m1,hm1⟩:=Md hP hG r (i+1) F' out.h (yFZ E F H o::ps) K h;refine ⟨F2,H2,yFZ E F H o::qs,hk,by simpa using ha,hb,max m0 m1,fun n e m hn hp hle=>?_⟩;obtain ⟨qt,ht,hq⟩:=hm1 n e m (by omega) hp (by omega);have ho:=hm n e m (by omega) hp (by omega);have e0:yiu e (ybF e m) o (F,H)=some (F',out.h):=by
     simp only [yiu,hg,ho,hF',Option.map]
    refine ⟨(yfd E F H o).tight H out.h::qt,⟨?_,ht⟩,?_⟩
    ·simp only [yfd,hg,yFZ];exact aw (hP n e hp) ho _ _ [] []
    ·simp only [yn3,e0,hq,hfp n e hp]
  ·obtain ⟨F2,H2,qs,hk,ha,hb,m1,hm1⟩:=Md hP hG r (i+1) (Cr F o.dst) H (fpNo o::ps) K h;refine ⟨F2,H2,fpNo o::qs,hk,by simpa using ha,hb,m1,fun n e m hn hp hle=>?_⟩;obtain ⟨qt,ht,hq⟩:=hm1 n e m hn hp hle;have e0:yiu e (ybF e m) o (F,H)=some (Cr F o.dst,H):=by
    simp only [yiu,hg]
    cases o.dst<;>rfl
   have e2:yfd E F H o=fpNo o:=by simp only [yfd,hg,fpNo]
   refine ⟨(fpNo o).tight H H::qt,⟨Cov.tight _ _ _,ht⟩,?_⟩;simp only [yn3,e0,hq,hfp n e hp,e2]
def iD (P:EP) (c:AC) (F:aG) (H:Hp) (Q:Ex→aG→Hp→Prop):Prop:=
 ∃ x F' H',Q x F' H'∧∃ m0,∀ n e m,m0≤n→P n e→m0≤m→exec e m c F H=some (x,F',H')
def cJ (P:EP) (c:TC) (F:aG) (H:Hp) (Q:Ex→aG→Hp→Prop):Prop:=iD P (dM c) F H Q
def gE:TC→Bool
 | .seq a b | .cond _ a b=>gE a&&gE b
 | .block _ b=>gE b
 | .loop _ b=>gE b
 | .lG _ b=>gE b
 | .join _ b=>gE b
 | .rangeF _ _ _ _ _ _ _=>false
 | _=>true
def LpOk (P:EP) (E:Env) (lp:LP) (G:aG):TC→Prop
 | .seq a b=>LpOk P E lp G a∧LpOk P E lp G b
 | .cond _ a b=>LpOk P E lp G a∧LpOk P E lp G b
 | .block _ b=>LpOk P E lp G b
 | .loop id b=>LpOk P E lp G b∧∀ F H Q,lp id G F H Q→cJ P (.loop id b) F H Q
 | .lG id b=>LpOk P E lp G b∧∀ F H Q,lp id G F H Q→cJ P (.lG id b) F H Q
 | .join id b=>LpOk P E lp G b∧∀ F H Q,lp id G F H Q→cJ P (.join id b) F H Q
 | .rangeF _ f np ib ps az bd=>(∃ rs,E.fns f=some ⟨np,rs,dM ib⟩∧rs.length=0)∧(gE ib=true∧gE az=true∧gE bd=true)∧(∀ G,LpOk (Z5 E G ps (dM az) (dM bd)) E lp G ib)∧LpOk (Us E) E lp [] az∧LpOk (Us E) E lp [] bd
 | _=>True
def jU:TC→List (Nat×TC)
 | .seq a b | .cond _ a b=>jU a++jU b
 | .block _ b=>jU b
 | .loop id b=>jU b++[(id,.loop id b)]
 | .lG id b=>jU b++[(id,.lG id b)]
 | .join id b=>jU b++[(id,.join id b)]
 | _=>[]
theorem uB {P:EP} {E:Env} {lp:LP} {G:aG}:∀ (c:TC),gE c=true→(∀ p∈jU c,∀ F H Q,lp p.1 G F H Q→cJ P p.2 F H Q)→LpOk P E lp G c
 | .skip,_,_ | .ops _ _ _ _,_,_ | .exit _,_,_ | .ret,_,_ | .bad,_,_ | .yret _ _ _ _ _ _ _,_,_ | .cut _,_,_=>trivial
 | .rangeF _ _ _ _ _ _ _,hf,_=>by simp [gE] at hf
 | .seq a b,hf,h=>by simp only [gE,bQ] at hf;exact ⟨uB a hf.1 fun p hp=>h p (by simp only [jU,qA4];exact .inl hp),uB b hf.2 fun p hp=>h p (by simp only [jU,qA4];exact .inr hp)⟩
 | .cond _ a b,hf,h=>by simp only [gE,bQ] at hf;exact ⟨uB a hf.1 fun p hp=>h p (by simp only [jU,qA4];exact .inl hp),uB b hf.2 fun p hp=>h p (by simp only [jU,qA4];exact .inr hp)⟩
 | .block _ b,hf,h=>uB b hf h
 | .loop id b,hf,h=>⟨uB b hf fun p hp=>h p (by simp only [jU,qA4];exact .inl hp),h (id,.loop id b) (by simp [jU])⟩
 | .lG id b,hf,h=>⟨uB b hf fun p hp=>h p (by simp only [jU,qA4];exact .inl hp),h (id,.lG id b) (by simp [jU])⟩
 | .join id b,hf,h=>⟨uB b hf fun p hp=>h p (by simp only [jU,qA4];exact .inl hp),h (id,.join id b) (by simp [jU])⟩
def cS (P:EP) (E:Env) (yk:YK):Prop:=∀ vs H K,yk vs H K→∃ r H',K r H'∧∃ m0,∀ n e,m0≤n→P n e→e.yl e.yn E.yn vs H=some (r,H')
theorem cS.no (P:EP) (E:Env):cS P E oH:=fun _ _ _ h=>h.elim
def bH (P:EP) (E:Env) (callK:CK) (c:TC):Prop:=gE c=false→Good (aZ E) callK∧∀ n e,P n e→e=E
theorem iD.up {P:EP} {c:AC} {F:aG} {H:Hp} {Q:Ex→aG→Hp→Prop} {x:Ex} {F':aG} {H':Hp} {m0:Nat} (hk:Q x F' H') (h:∀ n e k,m0≤n→P n e→m0≤k→exec e (k+1) c F H=some (x,F',H')):iD P c F H Q:=
 ⟨x,F',H',hk,m0+1,fun n e m hn hp hm=>by
  obtain ⟨k,rfl⟩:∃ k,m=k+1:=⟨m-1,by omega⟩;exact h n e k (by omega) hp (by omega)⟩
theorem AF {lp:LP}:∀ (c:TC) (P:EP) (_:aQ P E) (_:Good P callK) (_:bH P E callK c) (G:aG) (yk:YK) (_:cS P E yk) (_:LpOk P E lp G c) (F:aG) (H:Hp) (Q:Ex→aG→Hp→Prop),WC E callK lp G yk c F H Q→iD P (dM c) F H Q
 | .skip,P,hP,hG,hR,G,yk,hY,_,F,H,Q,h=>by simp only [WC] at h;exact iD.up (m0:=0) h fun n e k _ _ _=>by simp only [dM,exec]
 | .exit id,P,hP,hG,hR,G,yk,hY,_,F,H,Q,h=>by simp only [WC] at h;exact iD.up (m0:=0) h fun n e k _ _ _=>by simp only [dM,exec]
 | .ret,P,hP,hG,hR,G,yk,hY,_,F,H,Q,h=>by simp only [WC] at h;exact iD.up (m0:=0) h fun n e k _ _ _=>by simp only [dM,exec]
 | .bad,P,hP,hG,hR,G,yk,hY,_,F,H,Q,h=>by simp only [WC] at h
 | .cut _,P,hP,hG,hR,G,yk,hY,_,F,H,Q,h=>by simp only [WC] at h
 | .ops l an ps fg,P,hP,hG,hR,G,yk,hY,_,F,H,Q,h=>by
  cases ps with
  | nil =>simp only [WC] at h;obtain ⟨F',H',hk,m0,hm⟩:=LX hP hG l 0 F H _ h;rw [HZ] at hk;exact iD.up (m0:=m0) hk fun n e k hn hp hle=>by simp only [dM,exec,yn4,hm n e k hn hp hle]
  | cons p ps=>
   simp only [WC] at h;obtain ⟨F',H',qs,hk,ha,hb,m0,hm⟩:=Md hP hG l 0 _ H [] _ h;rw [HZ] at hk;refine iD.up (m0:=m0) hk fun n e k hn hp hle=>?_
   obtain ⟨qt,ht,hq⟩:=hm n e k hn hp hle;simp only [dM,exec,yn4,hq];rw [Sj ⟨UG ht _ (by simpa using ha),hb⟩]
 | .seq a b,P,hP,hG,hR,G,yk,hY,hl,F,H,Q,h=>by
  simp only [WC] at h;simp only [LpOk] at hl;have hRa:bH P E callK a:=fun hf=>hR (by simp only [gE,hf,jS])
  have hRb:bH P E callK b:=fun hf=>hR (by simp only [gE,hf,Bool.and_false])
  obtain ⟨x,F',H',hk,m0,hm⟩:=AF a P hP hG hRa G yk hY hl.1 F H _ h
  cases x with
  | norm =>obtain ⟨x2,F2,H2,hk2,m1,hm1⟩:=AF b P hP hG hRb G yk hY hl.2 F' H' Q hk;exact iD.up (m0:=max m0 m1) hk2 fun n e k hn hp hle=>by simp only [dM,exec,hm n e k (by omega) hp (by omega),hm1 n e k (by omega) hp (by omega)]
  | exit i=>exact iD.up (m0:=m0) hk fun n e k hn hp hle=>by simp only [dM,exec,hm n e k hn hp hle]
  | ret=>exact iD.up (m0:=m0) hk fun n e k hn hp hle=>by simp only [dM,exec,hm n e k hn hp hle]
  | brk _ _=>exact iD.up (m0:=m0) hk fun n e k hn hp hle=>by simp only [dM,exec,hm n e k hn hp hle]
 | .cond c a b,P,hP,hG,hR,G,yk,hY,hl,F,H,Q,h=>by
  simp only [WC] at h;simp only [LpOk] at hl;have hRa:bH P E callK a:=fun hf=>hR (by simp only [gE,hf,jS])
  have hRb:bH P E callK b:=fun hf=>hR (by simp only [gE,hf,Bool.and_false])
  split at h
  ·rename_i t ht;have hte:∀ n e,P n e→evV e F c=some (.bool t):=fun n e hp=>by
    have hl:=hP n e hp;unfold fG at hl;rw [hl,uA];exact ht
   obtain ⟨h1,h2⟩:=oE.1 h
   cases t with
   | true =>obtain ⟨x,F',H',hk,m0,hm⟩:=AF a P hP hG hRa G yk hY hl.1 F H Q (UE ht ▸ h1 rfl);exact iD.up (m0:=m0) hk fun n e k hn hp hle=>by simp only [dM,exec,hte n e hp,hm n e k hn hp hle]
   | false =>obtain ⟨x,F',H',hk,m0,hm⟩:=AF b P hP hG hRb G yk hY hl.2 F H Q (UE ht ▸ h2 rfl);exact iD.up (m0:=m0) hk fun n e k hn hp hle=>by simp only [dM,exec,hte n e hp,hm n e k hn hp hle]
  ·exact h.elim
 | .block id b,P,hP,hG,hR,G,yk,hY,hl,F,H,Q,h=>by
  simp only [WC] at h;simp only [LpOk] at hl;have hRb:bH P E callK b:=fun hf=>hR (by simp only [gE,hf])
  obtain ⟨x,F',H',hk,m0,hm⟩:=AF b P hP hG hRb G yk hY hl F H _ h
  cases x with
  | norm=>exact iD.up (m0:=m0) hk fun n e k hn hp hle=>by simp only [dM,exec,hm n e k hn hp hle]
  | exit i=>
   simp only at hk
   cases hb:Nat.beq i id with
   | true =>rw [hb] at hk;have e:=eJ hb;subst e;exact iD.up (m0:=m0) (x:=.norm) hk fun n e k hn hp hle=>by simp only [dM,exec,hm n e k hn hp hle,if_true]
   | false=>
    rw [hb] at hk;have e:¬i=id:=fun e=>by subst e;rw [Nat.beq_refl] at hb;cases hb
    exact iD.up (m0:=m0) (x:=.exit i) hk fun n e' k hn hp hle=>by simp only [dM,exec,hm n e' k hn hp hle,e,if_false]
  | ret=>exact iD.up (m0:=m0) hk fun n e k hn hp hle=>by simp only [dM,exec,hm n e k hn hp hle]
  | brk _ _=>exact iD.up (m0:=m0) hk fun n e k hn hp hle=>by simp only [dM,exec,hm n e k hn hp hle]
 | .loop id b,P,hP,hG,hR,G,yk,hY,hl,F,H,Q,h=>by simp only [WC] at h;simp only [LpOk] at hl;exact hl.2 F H Q h
 | .lG id b,P,hP,hG,hR,G,yk,hY,hl,F,H,Q,h=>by simp only [WC] at h;simp only [LpOk] at hl;exact hl.2 F H Q h
 | .join id b,P,hP,hG,hR,G,yk,hY,hl,F,H,Q,h=>by simp only [WC] at h;simp only [LpOk] at hl;exact hl.2 F H Q h
 | .yret ..,P,hP,hG,hR,G,yk,hY,_,F,H,Q,h=>by simp only [WC] at h
 | .rangeF ..,P,hP,hG,hR,G,yk,hY,_,F,H,Q,h=>by simp only [WC] at h
theorem cJ.intro {id:Nat} {P:EP} (hP:aQ P E) (hG:Good P callK) {lp:LP} {b:TC} (hf:gE b=true) {G:aG} {yk:YK} (hY:cS P E yk) (hl:LpOk P E lp G b) {Q:Ex→aG→Hp→Prop} (R:Nat→aG→Hp→Prop) (h0:∀ F H,¬R 0 F H)
  (hs:∀ n F H,R (n+1) F H→WC E callK lp G yk b F H fun x F' H'=>match x with | .norm=>R n F' H' | .exit i=>Q (.exit i) F' H' | .ret=>Q .ret F' H' | .brk k i=>Q (.brk k i) F' H') :
  ∀ n F H,R n F H→cJ P (.loop id b) F H Q
 | 0,F,H,h=>(h0 F H h).elim
 | n+1,F,H,h=>by
  obtain ⟨x,F',H',hk,m0,hm⟩:=AF b P hP hG (fun hf'=>by rw [hf] at hf';cases hf') G yk hY hl F H _ (hs n F H h)
  cases x with
  | norm =>have hk:R n F' H':=hk;obtain ⟨x2,F2,H2,hk2,m1,hm1⟩:=cJ.intro (id:=id) hP hG hf hY hl R h0 hs n F' H' hk;simp only [dM] at hm1;exact iD.up (m0:=max m0 m1) hk2 fun n e k hn hp hle=>by simp only [dM,exec,hm n e k (by omega) hp (by omega),hm1 n e k (by omega) hp (by omega)]
  | exit i=>exact iD.up (m0:=m0) hk fun n e k hn hp hle=>by simp only [dM,exec,hm n e k hn hp hle]
  | ret=>exact iD.up (m0:=m0) hk fun n e k hn hp hle=>by simp only [dM,exec,hm n e k hn hp hle]
  | brk _ _=>exact iD.up (m0:=m0) hk fun n e k hn hp hle=>by simp only [dM,exec,hm n e k hn hp hle]
end
def gW (P:EP) (n:Nat) (az:List PV) (r:PV):Prop:=∃ m0,∀ k e m,m0≤k→P k e→m0≤m→ydk e (ybF e m) n az=some r
def Ans (E:Env) (n:Nat) (az:List PV) (r:PV):Prop:=gW (aZ E) n az r
def mO (E:Env) (n:Nat) (az:List PV) (r:PV):Prop:=gW (LS E) n az r
theorem gW.sub {P P':EP} {n:Nat} {az:List PV} {r:PV} (h:gW P n az r) (hs:∀ k e,P' k e→P k e):gW P' n az r:=by obtain ⟨m0,hm⟩:=h;exact ⟨m0,fun k e m h1 h2 h3=>hm k e m h1 (hs k e h2) h3⟩
theorem Ans.solo {E:Env} {n:Nat} {az:List PV} {r:PV} (h:Ans E n az r):mO E n az r:=gW.sub h fun _ e h=>by cases h;rfl
def Fq (E:Env):Prop:=∀ n az H x,E.eff n az H=some x→E.qui n=false∧E.frz n=false∧(∀ az,E.sum n az=none)∧E.rb n=false
def Me (P:EP) (n:Nat) (az:List PV) (b:HB) (q:PV) (rows:List PV):Prop:=∃ m0,∀ k e m,m0≤k→P k e→m0≤m→yEu (ybF e m) n az b=some (q,rows)
structure SEOk (P:EP) (S:SE):Prop where
 sb:aQ P S.E
 sum:∀ n wp,S.sumK n=some wp→∀ az K,wp az K→∃ r,K r∧gW P n az r
 inl:∀ n fn,S.inl n=some fn→S.E.fns n=some fn.fn∧S.E.qui n=false∧S.E.frz n=false∧(∀ az,S.E.sum n az=none)∧(∀ az H,S.E.eff n az H=none)∧gE fn.body=true∧LpOk P S.E S.lp [] fn.body
 eff:Fq S.E
 sumL:∀ n wp,S.sumL n=some wp→∀ az b K,wp az b K→∃ q rows,K q rows∧Me P n az b q rows
section
variable {S:SE} {P:EP} {callK:CK} {H:Hp}
theorem qP {E e:Env} (h:fG E e):e.fns=E.fns∧e.sum=E.sum∧e.qui=E.qui∧e.frz=E.frz∧e.rb=E.rb∧e.nl=E.nl∧e.eff=E.eff:=by unfold fG at h;rw [h];exact ⟨rfl,rfl,rfl,rfl,rfl,rfl,rfl⟩
theorem Fr (hP:aQ P S.E) (hG:Good P callK) {fn:TFn} (hR:bH P S.E callK fn.body) (hl:LpOk P S.E S.lp [] fn.body) {n:Nat} (hf:S.E.fns n=some fn.fn) (he:∀ az H,S.E.eff n az H=none) {args:List PV} {K:PV→Hp→Prop} (h:Cu S.E callK S.lp fn args H K) :
  ∃ r H',K r H'∧∃ m0,∀ k e m,m0≤k→P k e→m0≤m→ybF e m n args H=some (r,H'):=by
 obtain ⟨h1,h⟩:=bJ.1 h;have h1:args.length=fn.nparams:=by simpa using h1
 obtain ⟨x,F',H',hk,m0,hm⟩:=AF fn.body P hP hG hR [] oH (cS.no _ _) hl _ H _ h;have key:(match yjc F' H' fn.results with | some ps=>K (qI ps) H' | none=>False)→(x=.norm∨x=.ret) →
   ∃ r H',K r H'∧∃ m0,∀ k e m,m0≤k→P k e→m0≤m→ybF e m n args H=some (r,H'):=by
  intro hk hx;split at hk
  ·rename_i ps hps;refine ⟨_,_,hk,m0+1,fun k e m hkl hp hle=>?_⟩;obtain ⟨q,rfl⟩:∃ q,m=q+1:=⟨m-1,by omega⟩;have e0:=hm k e q (by omega) hp (by omega);obtain ⟨l1,_,_,_,_,_,l7⟩:=qP (hP k e hp);simp only [ybF,Env.effx,qE,l7,l1,he,hf,TFn.fn,h1,if_true];rw [e0];rcases hx with rfl | rfl<;>simp only [hps]
  ·exact hk.elim
 cases x with
 | norm=>exact key hk (.inl rfl)
 | exit i=>exact hk.elim
 | brk _ _=>exact hk.elim
 | ret=>exact key hk (.inr rfl)
theorem Fs {e:Env} {call:Nat→List PV→Hp→Option (PV×Hp)} {f:PV} {args:List PV} (h:ynY e f args=none):ykc e call f args H=nX e call f args H:=by simp only [ykc,h]
theorem cM (hS:SEOk P S):∀ d,Good P (jD S d)
 | 0,f,args,H,K,h=>h.elim
 | d+1,f,args,H,K,h=>by
  unfold jD at h;split at h
  ·rename_i n first captured;split at h
   ·rename_i x hx;split at h
    ·rename_i wp hwp;unfold Fl at h;obtain ⟨az,H',h,hp⟩:=Ib _ _ _ h;split at h
     ·rename_i b hb;obtain ⟨hc,h⟩:=bJ.1 h;simp only [bQ,jR] at hc;obtain ⟨q,rows,hk,m0,hm⟩:=hS.sumL _ wp hwp _ _ _ h;refine ⟨q,_,hk,m0,fun k e m hkl he hle=>?_⟩;simp only [ykc,Fp (hS.sb k e he),hx,BU,hp,hb];rw [Sj hc];simp only [hm k e m hkl he hle]
     ·exact h.elim
    ·exact h.elim
   rename_i hx;have hx':∀ k e,P k e→ynY e (.fn (.func n) first captured) args=none:=fun k e he=>(Fp (hS.sb k e he) _ _).trans hx
   split at h
   ·rename_i wp hwp
    cases hb:S.E.rb n with
    | true =>rw [hb,cond_true] at h;obtain ⟨az,h,hp⟩:=UA _ _ h;obtain ⟨r,hk,m0,hm⟩:=hS.sum n wp hwp az _ h;obtain ⟨hs,hk⟩:=bJ.1 hk;refine ⟨r,_,hk,m0,fun k e m hkl he hle=>?_⟩;obtain ⟨_,_,_,_,l5,_,_⟩:=qP (hS.sb k e he);rw [Fs (hx' k e he)];simp only [nX,l5,hb,if_true,hp,hm k e m hkl he hle,hs]
    | false=>
     rw [hb,cond_false] at h;obtain ⟨az,H',h,hp⟩:=Ib _ _ _ h;obtain ⟨r,hk,m0,hm⟩:=hS.sum n wp hwp az _ h;refine ⟨r,_,hk,m0,fun k e m hkl he hle=>?_⟩;obtain ⟨_,_,_,_,l5,_,_⟩:=qP (hS.sb k e he);rw [Fs (hx' k e he)];simp only [nX,l5,hb,gR,if_false,hp,hm k e m hkl he hle]
     cases r.scalar<;>simp
   ·split at h
    ·rename_i fn hfn;obtain ⟨h1,h2,h3,h4,h6,h7,h5⟩:=hS.inl n fn hfn
     cases hb:S.E.rb n with
     | true =>rw [hb,cond_true] at h;exact h.elim
     | false=>
      rw [hb,cond_false] at h;obtain ⟨r,H',hk,m0,hm⟩:=Fr hS.sb (cM hS d) (fun hf=>by rw [h7] at hf;cases hf) h5 h1 h6 h;refine ⟨r,H',hk,m0,fun k e m hkl he hle=>?_⟩;obtain ⟨_,l2,l3,l4,l5,_,_⟩:=qP (hS.sb k e he);have e0:∀ az,ydk e (ybF e m) n az=none:=by
       intro az;simp only [ydk,l2,l3,h4 az,h2];rfl
      rw [Fs (hx' k e he)];simp only [nX,e0,l3,l4,l5,h2,h3,hb]
      cases ya3 H (first++args++captured)<;>simp only [gR,if_false,hm k e m hkl he hle]
    ·split at h
     ·rename_i c t x y he;obtain ⟨hc,h⟩:=bJ.1 h;subst hc;obtain ⟨h2,h3,h4,h7⟩:=hS.eff n _ _ _ he;obtain ⟨r,H',h,hrt⟩:∃ r H',K r H'∧(bif t then x else y)=(r,H'):=by
       cases t with
       | true=>exact ⟨_,_,h,rfl⟩
       | false=>exact ⟨_,_,h,rfl⟩
      refine ⟨r,H',h,1,fun k e m hkl hp hle=>?_⟩;obtain ⟨k,rfl⟩:∃ k,m=k+1:=⟨m-1,by omega⟩;obtain ⟨_,l2,l3,l4,l5,_,l7⟩:=qP (hS.sb _ e hp);have e0:∀ az,ydk e (ybF e (k+1)) n az=none:=by
       intro az;simp only [ydk,l2,l3,h4 az,h2];rfl
      have hi:ybF e (k+1) n (first++args++captured) H=some (r,H'):=by simp only [ybF,Env.effx,qE,l7,he,hrt]
      rw [Fs (hx' _ e hp)];simp only [nX,e0,l3,l4,l5,h2,h3,h7]
      cases ya3 H (first++args++captured)<;>simp only [gR,if_false,hi]
     ·exact h.elim
  ·exact h.elim
theorem ay (hS:SEOk P S) {d:Nat} {fn:TFn} {n:Nat} (hR:bH P S.E (jD S d) fn.body) (hl:LpOk P S.E S.lp [] fn.body) (hf:S.E.fns n=some fn.fn) (hq:S.E.qui n=true) (hs:∀ az,S.E.sum n az=none) (he:∀ az H,S.E.eff n az H=none) {az:List PV} {K:PV→Prop} (h:WP S d fn az K) (hn:S.E.nl n=false:=by kernel_rfl) :
  ∃ r,K r∧gW P n az r:=by
 unfold WP at h;obtain ⟨r,H',hk,m0,hm⟩:=Fr hS.sb (cM hS d) hR hl hf he h;obtain ⟨q,hk,hq'⟩:=ah hk;refine ⟨q,hk,m0,fun k e m hkl hp hle=>?_⟩;obtain ⟨_,l2,l3,_,_,l6,_⟩:=qP (hS.sb k e hp);simp only [ydk,l2,l3,l6,hs az,hq,hm k e m hkl hp hle,hn,jC,cond_false,hq',if_true]
theorem bH.flat {E:Env} {c:TC} (h:gE c=true:=by kernel_rfl):bH P E callK c:=fun hf=>by rw [h] at hf;cases hf
end
def qQ (P:EP) (lp:LP) (G:aG):List (Nat×TC)→Prop
 | []=>True
 | p::r=>(∀ F H Q,lp p.1 G F H Q→cJ P p.2 F H Q)∧qQ P lp G r
theorem qQ.mem {P:EP} {lp:LP} {G:aG}:∀ {l:List (Nat×TC)},qQ P lp G l→∀ p∈l,∀ F H Q,lp p.1 G F H Q→cJ P p.2 F H Q
 | [],_,p,hp=>by cases hp
 | q::r,h,p,hp=>by
  rcases qAq.1 hp with rfl|hp
  ·exact h.1
  ·exact qQ.mem h.2 p hp
theorem dA {P:EP} {E:Env} {lp:LP} {G:aG} {c:TC} {l:List (Nat×TC)} (h:qQ P lp G l) (e:jU c=l) (hf:gE c=true:=by kernel_rfl):LpOk P E lp G c:=uB c hf (by rw [e];exact h.mem)
theorem aW {P:EP} {E:Env} {lp:LP} {G:aG} {c:TC} (e:jU c=[]) (hf:gE c=true:=by kernel_rfl):LpOk P E lp G c:=dA (l:=[]) trivial e hf
def yeY:List (Nat×(List PV→(PV→Prop)→Prop))→Nat→Option (List PV→(PV→Prop)→Prop)
 | [],_=>none
 | (k,f)::r,n=>bif Nat.beq k n then some f else yeY r n
def yez:List (Nat×TFn)→Nat→Option TFn
 | [],_=>none
 | (k,f)::r,n=>bif Nat.beq k n then some f else yez r n
def qR (P:EP):List (Nat×(List PV→(PV→Prop)→Prop))→Prop
 | []=>True
 | (k,f)::r=>(∀ az K,f az K→∃ q,K q∧gW P k az q)∧qR P r
def uD (P:EP) (E:Env) (lp:LP):List (Nat×TFn)→Prop
 | []=>True
 | (k,f)::r=>(E.fns k=some f.fn∧E.qui k=false∧E.frz k=false∧(∀ az,E.sum k az=none)∧(∀ az H,E.eff k az H=none)∧gE f.body=true∧LpOk P E lp [] f.body)∧uD P E lp r
theorem UH {P:EP}:∀ (l:List (Nat×(List PV→(PV→Prop)→Prop))),qR P l→∀ n wp,yeY l n=some wp→∀ az K,wp az K→∃ r,K r∧gW P n az r
 | [],_,_,_,h=>by simp [yeY] at h
 | (k,f)::r,hl,n,wp,h=>by
  simp only [qR] at hl;simp only [yeY] at h
  cases hc:Nat.beq k n with
  | true =>rw [hc] at h;simp only [cond_true,bV] at h;have:=eJ hc;subst this;subst h;exact hl.1
  | false =>rw [hc] at h;exact UH r hl.2 n wp (by simpa using h)
theorem UI {P:EP} {E:Env} {lp:LP}:∀ (l:List (Nat×TFn)),uD P E lp l→∀ n fn,yez l n=some fn→E.fns n=some fn.fn∧E.qui n=false∧E.frz n=false∧(∀ az,E.sum n az=none)∧(∀ az H,E.eff n az H=none)∧gE fn.body=true∧LpOk P E lp [] fn.body
 | [],_,_,_,h=>by simp [yez] at h
 | (k,f)::r,hl,n,fn,h=>by
  simp only [uD] at hl;simp only [yez] at h
  cases hc:Nat.beq k n with
  | true =>rw [hc] at h;simp only [cond_true,bV] at h;have:=eJ hc;subst this;subst h;exact hl.1
  | false =>rw [hc] at h;exact UI r hl.2 n fn (by simpa using h)
theorem bK {P:EP} {E:Env} {ls:List (Nat×(List PV→(PV→Prop)→Prop))} {li:List (Nat×TFn)} {lp:LP} (hb:aQ P E) (hs:qR P ls) (hi:uD P E lp li) (he:Fq E):SEOk P ⟨E,yeY ls,yez li,lp,fun _=>none⟩ where
 sb:=hb
 sum:=fun n wp h=>UH ls hs n wp h
 inl:=fun n fn h=>UI li hi n fn h
 eff:=he
 sumL:=fun n wp h=>by cases h
theorem bc {add sub n:Nat} (h1:Nat.beq n add=false) (h2:Nat.beq n sub=false) (az:List PV):sumC add sub n az=none:=by
 unfold sumC;split
 ·rw [h1,h2];rfl
 ·rfl
def Cx (p0 p1 p2:Int) (K:Int→Int→Prop):Prop:=
 aA (decide (p2.toNat≤1)) (K (((p0.toNat+p1.toNat+p2.toNat)%18446744073709551616:Nat):Int) (((p0.toNat+p1.toNat+p2.toNat)/18446744073709551616:Nat):Int))
def qS:List PV:=([0,1,2,2,3,3,3,3,4,4,4,4,4,4,4,4,5,5,5,5,5,5,5,5,5,5,5,5,5,5,5,5,6,6,6,6,6,6,6,6,6,6,6,6,6,6,6,6,6,6,6,6,6,6,6,6,6,6,6,6,6,6,6,6,7,7,7,7,7,7,7,7,7,7,7,7,7,7,7,7,7,7,7,7,7,7,7,7,7,7,7,7,7,7,7,7,7,7,7,7,7,7,7,7,7,7,7,7,7,7,7,7,7,7,7,7,7,7,7,7,7,7,7,7,7,7,7,7,8,8,8,8,8,8,8,8,8,8,8,8,8,8,8,8,8,8,8,8,8,8,8,8,8,8,8,8,8,8,8,8,8,8,8,8,8,8,8,8,8,8,8,8,8,8,8,8,8,8,8,8,8,8,8,8,8,8,8,8,8,8,8,8,8,8,8,8,8,8,8,8,8,8,8,8,8,8,8,8,8,8,8,8,8,8,8,8,8,8,8,8,8,8,8,8,8,8,8,8,8,8,8,8,8,8,8,8,8,8,8,8,8,8,8,8,8,8,8,8,8,8,8,8,8,8,8,8]:List Int).map (PV.int .u8)
def Mf (w:Int→Int→Int→(Int→Int→Prop)→Prop) (az:List PV) (K:PV→Prop):Prop:=
 match az with
 | [(.int .u64 p0),(.int .u64 p1),(.int .u64 p2)]=>w p0 p1 p2 (fun (r0:Int) (r1:Int)=>K (.tup [(.int .u64 r0),(.int .u64 r1)]))
 | _=>False
def yq7 (az:List PV) (K:PV→Prop):Prop:=Mf Cx az K
def Cy (p0 p1 p2:Int) (K:Int→Int→Prop):Prop:=
 aA (decide (p2.toNat≤1)) (K (((p0.toNat+18446744073709551616-p1.toNat-p2.toNat)%18446744073709551616:Nat):Int) ((bif Nat.ble (p1.toNat+p2.toNat) p0.toNat then 0 else 1:Nat):Int))
def Mg (w:Int→Int→Int→(Int→Int→Prop)→Prop) (az:List PV) (K:PV→Prop):Prop:=
 match az with
 | [(.int .u64 p0),(.int .u64 p1),(.int .u64 p2)]=>w p0 p1 p2 (fun (r0:Int) (r1:Int)=>K (.tup [(.int .u64 r0),(.int .u64 r1)]))
 | _=>False
def yq9 (az:List PV) (K:PV→Prop):Prop:=Mg Cy az K
theorem Ie {P:Program} {E:Env} (hE:EO P E) (hm:P.follows .mixedOrders=true) {n:Nat} {az:List PV} {r:PV} (hs:E.sum n az=none) (hq:E.qui n=true) (h:mO E n az r):lD P E.glob n az r:=by
 obtain ⟨m0,hm0⟩:=h;have:=hm0 m0 E m0 (bW _) rfl (bW _);simp only [ydk,hs,hq,if_true] at this;refine LM hE hm (n:=m0) ?_;unfold topV;split at this
 ·rename_i x H hx;rw [hx];exact this
 ·cases this
end Go.Pf
namespace Go.Pf
open Go Go.RowKit
section
variable {P:Program} {E:Env}
theorem be {b:Bool} {call} (hc:ybr P E call) {I:Nat→Prop} {w:World} {f:Nat} {args:List PV} {vs:List Value} {r q:PV} {H:Hp} (himm:∀ b,I b→b<w.heap.size)
  (hg:∀ n x,E.glob n=some x→I n∧∃ vs,0<vs.length∧RC I w x vs∧At w n 0 vs) (hv:bO ⟨fun _=>none,fun _=>none,I,fun _=>none⟩ [] w args vs) (hin:call f args []=some (r,H)) (h:jC b H r=some q) :
  kU P f vs.toArray w fun v w'=>Bel w.heap.size w w'∧VP (fun b=>I b∨(w.heap.size≤b∧b<w'.heap.size)) w' q v:=by
 let g0:Gh:=⟨fun _=>none,fun _=>none,I,fun _=>none⟩;have hr:Rel E 0 g0 [] [] #[] w:=by
  refine ⟨iB _,fun s fv e=>by simp [fget] at e,fun id hb e=>by simp at e,fun id id' hb b o b' o' e=>by simp at e,fun id b o e=>by simp [g0] at e,fun s s' b e=>by simp [g0] at e,fun s b id o e=>by simp [g0] at e,fun s b e=>by simp [g0] at e,himm,hg⟩
 refine (hc f args [] r H hin 0 g0 [] #[] w vs hr (Lps.none_ fun _=>rfl) hv).mono ?_;rintro v w' ⟨g',n1,r1,hvr⟩;obtain ⟨g2,H2,r2,n2,hvp⟩:=Tg r1 hvr h;have n3:=n1.trans n2;have noR:∀ b,¬RngR g0 b:=fun b ⟨id,o,e⟩=>by simp [g0] at e
 have noM:∀ b,¬kC g0 b:=fun b ⟨s,e⟩=>by simp [g0] at e
 refine ⟨⟨⟨n3.os,n3.tape,n3.output,n3.size,fun k hk=>n3.kept k hk (noR k) (noM k)⟩,n3.drawn⟩,Lr (fun b hb=>⟨?_,rfl⟩) hvp⟩;rcases qAz b w.heap.size with h1 | h1
 ·rcases hb with hb | hb
  ·rcases n3.immb b h1 hb with h2 | h2
   ·exact .inl h2
   ·exact absurd h2 (noR b)
  ·exact absurd (n3.rng b h1 hb) (noR b)
 ·exact .inr ⟨h1,hb.elim (r2.imm b) r2.brng⟩
theorem bf (hE:EO P E) (hm:P.follows .mixedOrders=true) {n f:Nat} {q:PV} (h:∀ b,topV E n f [.mt b]=some q):lD P E.glob f [.data []] q:=by
 intro I w vs himm hgl hv;simp only [eF,dI,RC] at hv;obtain ⟨v,vr,rfl,⟨a,len,cap,e,hl,hc,hm2,_⟩,rfl⟩:=hv;simp only [iH,and_true] at e;subst e;have hl:len=0:=hl;subst hl;have hh:=h a.isNone;unfold topV at hh;split at hh
 ·rename_i r H hin;refine be (LK hE hm n) himm hgl (args:=[.mt a.isNone]) ?_ hin hh;simp only [bO,VR];exact ⟨_,_,rfl,⟨a,cap,rfl,hm2,rfl⟩,rfl⟩
 ·cases hh
end
def Cz (esz bytes:Nat) (z:PV):AFn:=⟨1,[.tmp 2],
 (.seq
  (.ops [⟨some 2,(.mv (.c .nils)),none⟩] [] [2])
  (.seq
   (.seq
    (.ops [⟨some 3,(.mv (.t 0)),none⟩,
     ⟨some 4,(.eqN false (.t 3)),none⟩] [] [3])
    (.cond (.t 4)
     (.seq (.ops [⟨some 2,(.mv (.c .nils)),none⟩] [] [0,4]) .ret)
     .skip))
   (.seq
    (.ops [⟨some 5,(.bSl true esz z 0 []),none⟩,
     ⟨some 6,(.mv (.t 0)),none⟩,
     ⟨some 7,(.app true esz bytes (.t 5) (.t 6)),none⟩,
     ⟨some 2,(.mv (.t 7)),none⟩] [] [0,4,5,6,7])
    .ret)))⟩
abbrev mP:=List (Nat×Nat×Nat)
def Ig (esz bytes:Nat) (rows:List PV):Bool:=kY esz rows&&decide ((rows.length+64)*(bytes+1)≤room)
def yjr:mP→Nat→List PV→Option PV
 | [],_,_=>none
 | (k,esz,bytes)::r,n,az=>bif Nat.beq k n then (match az with
  | [.data rows]=>(bif Ig esz bytes rows then some (.data rows) else none)
  | _=>none) else yjr r n az
def Ih:mP→Nat→Bool
 | [],_=>false
 | (k,_,_)::r,n=>Nat.beq k n||Ih r n
section
variable {P:Program} {E:Env}
theorem bg {n esz bytes:Nat} {z:PV} (hf:E.fns n=some (Cz esz bytes z)) (he:∀ az H,E.eff n az H=none) (hnl:E.nl n=false) (b:Bool):topV E 12 n [.mt b]=some (.data []):=by
 unfold topV
 cases b<;>simp [ybF,Env.effx,qE,he,exec,hf,Cz,yn4,lY,yja,yeh,yar,evV,ev,sJ,fget,cX,fdels,eS,iZ,yek,outV,Option.map,yjc,yAi,qI,jC,hnl,purR,yca,yeg,appV,yhm,kY,sG]
theorem bh {n esz bytes:Nat} {z:PV} (hf:E.fns n=some (Cz esz bytes z)) (he:∀ az H,E.eff n az H=none) (hnl:E.nl n=false) {x:PV} {r:List PV} (h:Ig esz bytes (x::r)=true):topV E 12 n [.data (x::r)]=some (.data (x::r)):=by simp only [Ig,bQ,decide_eq_true_eq,kR] at h;obtain ⟨h1,h2⟩:=h;unfold topV;simp [ybF,Env.effx,qE,he,exec,hf,Cz,yn4,lY,yja,yeh,yar,evV,ev,sJ,fget,cX,fdels,eS,iZ,yek,outV,Option.map,yjc,yAi,qI,jC,hnl,purR,yca,yeg,appV,yhm,h1,sG,ydf,h2]
theorem UJ (hE:EO P E) (hm:P.follows .mixedOrders=true) (he:∀ n az H,E.eff n az H=none) (hnl:∀ n,E.nl n=false):∀ (cl:mP),(∀ n esz bytes,(n,esz,bytes)∈cl→∃ z,E.fns n=some (Cz esz bytes z))→∀ n az r,yjr cl n az=some r→lD P E.glob n az r
 | [],_,_,_,_,h=>by simp [yjr] at h
 | (k,esz,bytes)::t,hc,n,az,r,h=>by
  simp only [yjr] at h
  cases hb:Nat.beq k n with
  | false=>rw [hb] at h;exact UJ hE hm he hnl t (fun n e b hm=>hc n e b (eE _ hm)) n az r (by simpa using h)
  | true=>
   rw [hb] at h;have e:=eJ hb;subst e;simp only [cond_true] at h;split at h
   ·rename_i rows
    cases hk:Ig esz bytes rows with
    | false=>rw [hk] at h;simp at h
    | true=>
     rw [hk] at h;simp only [cond_true,bV] at h;subst h;obtain ⟨z,hf⟩:=hc k esz bytes eH
     cases rows with
     | nil=>exact bf hE hm (fun b=>bg hf (he k) (hnl k) b)
     | cons x r=>exact LM hE hm (bh hf (he k) (hnl k) hk)
   ·cases h
end
def UK:List (Nat×PV)→Nat→Option PV
 | [],_=>none
 | (k,a)::r,n=>bif Nat.beq k n then some a else UK r n
theorem lD.any {P:Program} {G:Nat→Option PV} {f:FuncId} {az:List PV} {r:PV} (h:lD P (fun _=>none) f az r):lD P G f az r:=
 fun I w vs hI _ hv=>h I w vs hI (fun _ _ e=>nomatch e) hv
def qT (add sub:Nat) (tab:List (Nat×AFn)) (qui:List Nat) (cl:mP) (gl:List (Nat×PV)):Env:=
 { glob:=UK gl,sum:=fun n az=>match sumC add sub n az with | some r=>some r | none=>yjr cl n az,fns:=yxI tab,frz:=fun _=>false,qui:=memN qui,nl:=fun n=>memN qui (n+1000000),rb:=fun n=>memN qui (n+3000000),lo:=fun n=>bif memN qui (n+4000000) then some 1 else bif memN qui (n+5000000) then some 0 else bif memN qui (n+2000000) then some 4 else none,dn:=fun n=>memN qui (n+6000000) }
def CA (add sub:Nat) (cl:mP) (n:Nat):Bool:=Nat.beq n add||(Nat.beq n sub||Ih cl n)
theorem UM:∀ (cl:mP) (n:Nat) (az:List PV),Ih cl n=false→yjr cl n az=none
 | [],_,_,_=>rfl
 | (k,_,_)::r,n,az,h=>by simp only [Ih,wW] at h;simp only [yjr,h.1,cond_false];exact UM r n az h.2
theorem bi {add sub:Nat} {tab:List (Nat×AFn)} {qui:List Nat} {cl:mP} {gl:List (Nat×PV)} {n:Nat} (h:CA add sub cl n=false) (az:List PV):(qT add sub tab qui cl gl).sum n az=none:=by simp only [CA,wW] at h;simp only [qT,bc h.1 h.2.1,UM cl n az h.2.2]
theorem bj {P:Program} {add sub:Nat} {tab:List (Nat×AFn)} {qui:List Nat} {cl:mP} {gl:List (Nat×PV)} (hm:P.follows .mixedOrders=true) (ha:IsExtern P add add64Entry) (hs:IsExtern P sub Ff) (ht:Aw P tab)
  (hd:∀ n∈Ax qui,Z0 P n) (hc:∀ n esz bytes,(n,esz,bytes)∈cl→∃ z,yxI tab n=some (Cz esz bytes z)):EO P (qT add sub tab qui cl gl) where
 sum:=by
  intro n az r h;simp only [qT] at h;split at h
  ·rename_i q hq;cases h;exact Ue ha hs n az _ hq
  ·exact (UJ (Y9 (qui:=[]) ha hs ht) hm (fun _ _ _=>rfl) (fun _=>rfl) cl (fun n e b hmem=>hc n e b hmem) n az r h).any
 fns:=fun n fn h=>LN tab ht n fn h
 eff:=fun _ _ _ _ _ _ _ h=>by cases h
 dn:=fun n h=>hd n (Uf h)
 top:=fun _ _=>rfl
 yl:=fun _ _ _ _ _ _ h=>by cases h
end Go.Pf
namespace Go.Pf
abbrev Ls:Type:=List PV
def O (d:Nat) (x:AOp):AO:=⟨some d,x,none⟩
def M (d s:Nat):AO:=⟨some d,.mv (.t s),none⟩
def I (n:Int):Opd:=.c (.int .i64 n)
abbrev bP (E:Env) (wp:List PV→(PV→Prop)→Prop) (n:Nat):Prop:=∀ az K,wp az K→∃ r,K r∧Ans E n az r
abbrev UN (E:Env) (wp:List PV→(PV→Prop)→Prop) (n:Nat):Prop:=∀ az K,wp az K→∃ r,K r∧mO E n az r
theorem bP.solo {E:Env} {wp:List PV→(PV→Prop)→Prop} {n:Nat} (h:bP E wp n):UN E wp n:=fun az K k=>by obtain ⟨r,h1,h2⟩:=h az K k;exact ⟨r,h1,h2.solo⟩
theorem mO.unique {E:Env} {n:Nat} {az:List PV} {r r':PV} (h:mO E n az r) (h':mO E n az r'):r=r':=by obtain ⟨m,hm⟩:=h;obtain ⟨m',hm'⟩:=h';have e:=hm (m+m') E (m+m') (by omega) rfl (by omega);rw [hm' (m+m') E (m+m') (by omega) rfl (by omega)] at e;exact (Option.some.inj e).symm
theorem Ans.unique {E:Env} {n:Nat} {az:List PV} {r r':PV} (h:Ans E n az r) (h':Ans E n az r'):r=r':=mO.unique h.solo h'.solo
theorem Mh {E:Env} {n:Nat} {wp:List PV→(PV→Prop)→Prop} (ok:UN E wp n) {az:List PV} {x:PV}
  (h:∀ K:PV→Prop,K x→wp az K) {K:PV→Prop} (k:wp az K):K x:=by
 obtain ⟨r,h1,h2⟩:=ok az K k;obtain ⟨q,h3,h4⟩:=ok az (fun y=>y=x) (h _ rfl);subst h3;rw [← h2.unique h4];exact h1
theorem bX {E:Env} {n:Nat} {wp:List PV→(PV→Prop)→Prop} (ok:∀ az K,wp az K→∃ r,K r∧Ans E n az r) {az:List PV} {x:PV}
 (h:∀ K:PV→Prop,K x→wp az K) {K:PV→Prop} (k:wp az K):K x:=Mh (bP.solo ok) h k
end Go.Pf
namespace Go.Pf
open Go
inductive DS where
 | b
 | i (k:IntKind)
 | s (e:DS)
 | a (l:List DS)
def DS.isA:DS→Bool
 | .a _=>true
 | _=>false
def PV.isAgg:PV→Bool
 | .agg _=>true
 | _=>false
mutual
def HasF:DS→List PV→Prop
 | .b,c=>∃ x,c=[.bool x]
 | .i k,c=>∃ n,c=[.int k n]∧gD k n
 | .s e,c=>∃ rows:List PV,c=[.data rows]∧rows.length≤maxLen∧∀ x∈rows,x.isAgg=e.isA∧HasF e x.cells
 | .a l,c=>HasL l c
def HasL:List DS→List PV→Prop
 | [],c=>c=[]
 | d::l,c=>∃ c1 c2,c=c1++c2∧HasF d c1∧HasL l c2
end
mutual
def gM (P:Program):DS→TypeId→Bool
 | .b,t=>(match P.underlying t with | some .bool=>true | _=>false)
 | .i k,t=>(match P.underlying t with | some (.int q)=>decide (q=k) | _=>false)
 | .s e,t=>(match P.underlying t with | some (.slice u)=>decide (0<P.cellsOf u)&&gM P e u | _=>false)
 | .a l,t=>(match P.underlying t with | some (.struct fs)=>kE P l (fs.toList.map (·.type)) | some (.array n u)=>kE P l (replicate n u) | _=>false)
def kE (P:Program):List DS→List TypeId→Bool
 | [],[]=>true
 | d::l,t::r=>gM P d t&&kE P l r
 | _,_=>false
end
theorem UO (P:Program):∀ (l:List DS) (ts:List TypeId),kE P l ts=true→l.length=ts.length
 | [],[],_=>rfl
 | _::l,_::r,h=>by unfold kE at h;simp only [bQ] at h;simp [UO P l r h.2]
 | [],_::_,h=>by unfold kE at h;cases h
 | _::_,[],h=>by unfold kE at h;cases h
theorem UP (P:Program):∀ (l:List DS) (ts:List TypeId),kE P l ts=true→∀ (j:Nat) d t,l[j]?=some d→ts[j]?=some t→gM P d t=true
 | [],[],_,_,_,_,h,_=>by simp at h
 | d::l,t::r,h,0,d',t',h1,h2=>by unfold kE at h;simp only [bQ] at h;simp only [Ez,bV] at h1 h2;subst h1;subst h2;exact h.1
 | d::l,t::r,h,j+1,d',t',h1,h2=>by unfold kE at h;simp only [bQ] at h;exact UP P l r h.2 j d' t' (by simpa using h1) (by simpa using h2)
 | [],_::_,h,_,_,_,_,_=>by unfold kE at h;cases h
 | _::_,[],h,_,_,_,_,_=>by unfold kE at h;cases h
section
variable {H:Type} {enc:TypeId×Value→H} {P:Program} {w:World} {I:Nat→Prop}
theorem bm {l1 l2:List PV} {v1 v2:List Value} (h1:yaQ I w l1 v1) (h2:yaQ I w l2 v2):yaQ I w (l1++l2) (v1++v2):=Lj h1 h2
def yLD (enc:TypeId×Value→H) (P:Program) (w:World) (I:Nat→Prop) (n:Nat):Prop:=
 ∀ (d:DS) (t:TypeId) (cs:List Value) (x:DataW H×List MemPlace),t<P.types.size→gM P d t=true→DataW.trod enc P w 0 (fun _=>true) true n t cs=some x→(∀ p∈x.2,I p.block)→∃ pcs,HasF d pcs∧yaQ I w pcs cs
theorem UQ {n:Nat} (ih:yLD enc P w I n) {l:List DS} {ts:List TypeId} (hl:kE P l ts=true) (hrow:∀ t∈ts,t<P.types.size) {cs:List Value} {xs:List (DataW H×List MemPlace)} (off:Nat→Nat)
  (hoff:∀ j t,ts[j]?=some t→off (j+1)=off j+P.cellsOf t) (hend:cs.length≤off ts.length) (hx:∀ j t,ts[j]?=some t→DataW.trod enc P w 0 (fun _=>true) true n t ((cs.drop (off j)).take (P.cellsOf t))=xs[j]?)
  (hxl:xs.length=ts.length) (hI:∀ p∈xs.flatMap (·.2),I p.block) :
  ∀ (r j:Nat),j+r=ts.length→∃ pcs,HasL (l.drop j) pcs∧yaQ I w pcs (cs.drop (off j)):=by
 have hll:=UO P l ts hl;intro r;induction r with
 | zero=>
  intro j hj;refine ⟨[],?_,?_⟩
  ·rw [lV (by omega)];simp only [HasL]
  ·rw [lV (by rw [show j=ts.length by omega];exact hend)];simp only [yaQ]
 | succ r ihr=>
  intro j hj;obtain ⟨pcs,h1,h2⟩:=ihr (j+1) (by omega);have ht:ts[j]?=some ts[j]:=cN (by omega);have hd:l[j]?=some l[j]:=cN (by omega);have hxj:xs[j]?=some xs[j]:=cN (by omega);have h:=hx j _ ht;rw [hxj] at h;obtain ⟨pc,k1,k2⟩:=ih l[j] ts[j] _ _ (hrow _ (nI _)) (UP P l ts hl j _ _ hd ht) h (fun p hp=>hI p (BQ.2 ⟨xs[j],nI _,hp⟩));refine ⟨pc++pcs,?_,?_⟩
  ·rw [List.drop_eq_getElem_cons (by omega)];simp only [HasL];exact ⟨pc,pcs,rfl,k1,h1⟩
  ·have e:cs.drop (off j)=(cs.drop (off j)).take (P.cellsOf ts[j])++cs.drop (off (j+1)):=by
    rw [hoff j _ ht,← List.drop_drop,List.take_append_drop]
   rw [e];exact bm k2 h2
theorem bo {d:DS} {pcs:List PV} (h:HasF d pcs):∃ x:PV,x.isAgg=d.isA∧x.cells=pcs∧∀ vs,yaQ I w pcs vs→RC I w x vs:=by
 have one:∀ y:PV,y.isAgg=false→pcs=[y]→d.isA=false→∃ x:PV,x.isAgg=d.isA∧x.cells=pcs∧∀ vs,yaQ I w pcs vs→RC I w x vs:=by
  intro y hy e hd;refine ⟨y,hy.trans hd.symm,?_,?_⟩
  ·subst e;cases y<;>first | rfl | cases hy
  ·intro vs hv;subst e;simp only [yaQ] at hv;obtain ⟨v,vr,rfl,_,h1,rfl⟩:=hv;exact h1
 cases d with
 | b=>simp only [HasF] at h;obtain ⟨x,e⟩:=h;exact one _ rfl e rfl
 | i k=>simp only [HasF] at h;obtain ⟨x,e,_⟩:=h;exact one _ rfl e rfl
 | s e=>simp only [HasF] at h;obtain ⟨x,e,_⟩:=h;exact one _ rfl e rfl
 | a l=>exact ⟨.agg pcs,rfl,rfl,fun vs hv=>by simp only [RC];exact hv⟩
theorem bq (K:Kids P (·<P.types.size)):∀ n,yLD enc P w I n:=by
 intro n;induction n with
 | zero=>intro d t cs x _ _ h;simp [DataW.trod] at h
 | succ n ih=>
  intro d t cs x hrow hty h hI
  cases d with
  | b=>
   unfold gM at hty;split at hty
   ·rename_i ht;obtain ⟨b,rfl,_⟩:=DataW.trod_bool ht h;refine ⟨[.bool b],by simp only [HasF];exact ⟨b,rfl⟩,?_⟩;simp only [yaQ,RC];exact ⟨_,_,rfl,rfl,rfl,rfl⟩
   ·cases hty
  | i k=>
   unfold gM at hty;split at hty
   ·rename_i q ht;simp only [decide_eq_true_eq] at hty;subst hty;obtain ⟨m,rfl,_,hw⟩:=DataW.trod_int ht h;have hk:gD q m:=by
     unfold gD;simpa [Lit.wf] using hw
    refine ⟨[.int q m],by simp only [HasF];exact ⟨m,rfl,hk⟩,?_⟩;simp only [yaQ,RC];exact ⟨_,_,rfl,rfl,⟨rfl,hk⟩,rfl⟩
   ·cases hty
  | s e=>
   unfold gM at hty;split at hty
   ·rename_i u ht;simp only [bQ,decide_eq_true_eq] at hty;obtain ⟨hpos,hty⟩:=hty;rcases DataW.trod_slice ht h with ⟨rfl,_⟩ | ⟨a,len,cap,elems,rest,m,hm,rfl,rfl,_,hle,hcap,hlen,hel,_⟩
    ·refine ⟨[.data []],?_,?_⟩
     ·simp only [HasF];exact ⟨[],rfl,by simp,by simp⟩
     ·simp only [yaQ,RC];exact ⟨_,_,rfl,rfl,⟨none,0,0,rfl,rfl,by omega,by decide,by simp⟩,rfl⟩
    ·have hmn:m=n:=by omega
     subst hmn;have hru:=K.slice hrow ht;have hspot0:len≠0→a.spot=none:=by
      intro h0;have hb:=hel 0 (by omega);rw [cN (by omega)] at hb;obtain ⟨cs',hc,hy⟩:=Ey.1 hb;obtain ⟨_,hcl,hcg⟩:=World.cells?_some hc;have h0:=hcg 0 hpos;rw [cN (by omega)] at h0;have e0:(a.add (0*P.cellsOf u)).add 0=a:=by simp [Addr.add]
      rw [e0] at h0;unfold World.cell? at h0;split at h0
      ·split at h0
       ·cases h0
       ·rename_i hs;simpa using hs
      ·cases h0
     have hadd:a.spot=none→∀ k i:Nat,(a.add k).add i=⟨a.block,a.off+k+i,none⟩:=by
      intro hs k i;obtain ⟨ab,ao,az⟩:=a;simp only at hs;subst hs;simp only [Addr.add]
      by_cases h1:k=0<;>by_cases h2:i=0<;>simp [h1,h2,sC]
     have yhm:∀ (r j:Nat),j+r=len→∃ rows:List PV,rows.length=r∧(∀ x∈rows,x.isAgg=e.isA∧HasF e x.cells)∧(r≠0→a.spot=none∧I a.block)∧dK I w rows (P.cellsOf u) a.block (a.off+j*P.cellsOf u):=by
      intro r;induction r with
      | zero=>intro j _;exact ⟨[],rfl,by simp,fun h=>absurd rfl h,by simp only [dK]⟩
      | succ r ihr=>
       intro j hj;obtain ⟨rows,l1,l2,_,l4⟩:=ihr (j+1) (by omega);have hj2:j<elems.length:=by omega
       have hb:=hel j (by omega);rw [cN hj2] at hb;obtain ⟨cs',hc,hy⟩:=Ey.1 hb;obtain ⟨_,hcl,hcg⟩:=World.cells?_some hc;obtain ⟨pcs,k1,k2⟩:=ih e u cs' _ hru hty hy (fun p hp=>hI p (by
        simp only [qA4,BQ];exact .inr ⟨elems[j],.inl (nI _),hp⟩))
       obtain ⟨x,x1,x2,x3⟩:=bo (I:=I) (w:=w) k1;have hspot:=hspot0 (by omega);have hIa:I a.block:=hI (.cell a.block a.off) (by
        simp only [qA4];left;exact MemPlace.mem_row.2 ⟨0,Nat.mul_pos (by omega) hpos,rfl⟩)
       refine ⟨x::rows,by simp [l1],?_,fun _=>⟨hspot,hIa⟩,?_⟩
       ·intro y hy;rcases qAq.1 hy with rfl | hy
        ·exact ⟨x1,by rw [x2];exact k1⟩
        ·exact l2 y hy
       ·simp only [dK];refine ⟨⟨cs',hcl,x3 _ k2,?_⟩,?_⟩
        ·intro i v hi;have hi2:i<P.cellsOf u:=by rw [← hcl];exact (zW.1 hi).1
         have:=hcg i hi2;rw [hi] at this;rw [← this,hadd hspot]
        ·rw [sC,show j*P.cellsOf u+P.cellsOf u=(j+1)*P.cellsOf u by rw [cQ,gI]];exact l4
     obtain ⟨rows,l1,l2,l3,l4⟩:=yhm len 0 (by omega);refine ⟨[.data rows],?_,?_⟩
     ·simp only [HasF];exact ⟨rows,rfl,by omega,l2⟩
     ·simp only [yaQ,RC];refine ⟨_,_,rfl,rfl,⟨some a,len,cap,rfl,l1.symm,hle,hcap,?_⟩,rfl⟩
      by_cases h0:len=0
      ·left;exact jA (by omega)
      ·right;obtain ⟨hs,hIa⟩:=l3 h0;refine ⟨a.block,a.off,P.cellsOf u,?_,hIa,hpos,by simpa using l4⟩
       cases a;simp only at hs;subst hs;rfl
   ·cases hty
  | a l=>
   unfold gM at hty;split at hty
   ·rename_i fs ht;obtain ⟨xs,m,hm,rfl,hcl,hxl,hxs⟩:=DataW.trod_struct ht h;have hmn:m=n:=by omega
    subst hmn;obtain ⟨k1,k2,k3⟩:=K.struct hrow ht;have:=UQ ih (l:=l) (ts:=fs.toList.map (·.type)) hty (fun t ht=>by obtain ⟨f,hf,rfl⟩:=fT.1 ht;exact k1 f hf) (cs:=cs) (xs:=xs) (fun j=>((fs.toList.take j).map fun f=>P.cellsOf f.type).sum)
     (fun j t hj=>by
      rw [mJ,nR] at hj;obtain ⟨f,hf,rfl⟩:=hj;obtain ⟨hlt,hf2⟩:=zW.1 hf;show ((fs.toList.take (j+1)).map _).sum=_;rw [List.take_add_one,hf];simp)
     (by simp only [cP,Ad];rw [hcl,k2];exact bW _)
     (fun j t hj=>by
      rw [mJ,nR] at hj;obtain ⟨f,hf,rfl⟩:=hj;have:=hxs j f (by simpa using hf);rw [← this,k3 j f hf])
     (by simp [hxl]) hI (fs.toList.map (·.type)).length 0 (by omega)
    obtain ⟨pcs,p1,p2⟩:=this;exact ⟨pcs,by simp only [HasF];exact p1,by simpa using p2⟩
   ·rename_i q u ht;obtain ⟨xs,m,hm,rfl,hcl,hxl,hxs⟩:=DataW.trod_array ht h;have hmn:m=n:=by omega
    subst hmn;obtain ⟨k1,k2⟩:=K.array hrow ht;have:=UQ ih (l:=l) (ts:=replicate q u) hty (fun t ht=>by rw [(List.mem_replicate.1 ht).2];exact k1) (cs:=cs) (xs:=xs) (fun j=>j*P.cellsOf u)
     (fun j t hj=>by
      have:t=u:=(List.mem_replicate.1 (List.mem_of_getElem? hj)).2;subst this;show (j+1)*_=_;rw [cQ,gI])
     (by rw [oV,hcl,k2];exact bW _)
     (fun j t hj=>by
      have e:t=u:=(List.mem_replicate.1 (List.mem_of_getElem? hj)).2;subst e;have hlt:j<q:=by have:=(zW.1 hj).1;simpa using this
      exact hxs j hlt)
     (by simp [hxl]) hI (replicate q u).length 0 (by omega)
    obtain ⟨pcs,p1,p2⟩:=this;exact ⟨pcs,by simp only [HasF];exact p1,by simpa using p2⟩
   ·cases hty
end
end Go.Pf
namespace Go.Pf
open Go Go.ChangeShapes Go.WideShapes Go.ChangeAt Go.RowKit
def yix:List DS→List PV→Prop
 | [],az=>az=[]
 | d::l,az=>∃ x r,az=x::r∧x.isAgg=d.isA∧HasF d x.cells∧yix l r
section
variable {H:Type} {enc:TypeId×Value→H} {P:Program}
theorem br (K:Kids P (·<P.types.size)) {w:World} {I:Nat→Prop} {base:Nat} {d:DS} {t:TypeId} {v:Value} {x:DataW H} {p:List MemPlace} (hrow:t<P.types.size) (hty:gM P d t=true)
  (hval:Value.okWide P w .any base t v) (h:DataW.Trod enc P w 0 (fun _=>true) true t v x p) (hI:∀ q∈p,I q.block) :
  ∃ y:PV,y.isAgg=d.isA∧HasF d y.cells∧dI I w y v:=by
 obtain ⟨n,hn⟩:=h;obtain ⟨pcs,h1,h2⟩:=bq (I:=I) K n d t _ _ hrow hty hn hI;have single:∀ y:PV,pcs=[y]→y.isAgg=false→d.isA=false→v.cells.toList=[v]→∃ y:PV,y.isAgg=d.isA∧HasF d y.cells∧dI I w y v:=by
  intro y e hy hd hv;subst e;refine ⟨y,hy.trans hd.symm,?_,?_⟩
  ·have:y.cells=[y]:=by cases y<;>first | rfl | cases hy
   rw [this];exact h1
  ·rw [hv] at h2;simp only [yaQ] at h2;obtain ⟨u,vr,e,_,h3,h4⟩:=h2;simp only [iH] at e;obtain ⟨rfl,_⟩:=e
   cases y<;>first | exact h3 | (simp only [RC] at h3;done) | (simp only [dI];exact h3) | cases hy
 cases d with
 | b=>
  unfold gM at hty;split at hty
  ·rename_i ht;obtain ⟨b,rfl⟩:=okWide_bool ht hval;simp only [HasF] at h1;obtain ⟨z,e⟩:=h1;exact single _ e rfl rfl rfl
  ·cases hty
 | i k=>
  unfold gM at hty;split at hty
  ·rename_i q ht;obtain ⟨m,rfl⟩:=okWide_int ht hval;simp only [HasF] at h1;obtain ⟨z,e,_⟩:=h1;exact single _ e rfl rfl rfl
  ·cases hty
 | s e=>
  unfold gM at hty;split at hty
  ·rename_i u ht;obtain ⟨a,len,cap,rfl⟩:=okWide_slice ht hval;simp only [HasF] at h1;obtain ⟨z,e,_⟩:=h1;exact single _ e rfl rfl rfl
  ·cases hty
 | a l=>
  have key:∀ cs,v=.agg cs→∃ y:PV,y.isAgg=(DS.a l).isA∧HasF (DS.a l) y.cells∧dI I w y v:=by rintro cs rfl;refine ⟨.agg pcs,rfl,h1,?_⟩;simp only [dI];exact ⟨cs.toList,rfl,h2⟩
  unfold gM at hty;split at hty
  ·rename_i fs ht;obtain ⟨cs,e,_⟩:=okWide_struct ht hval;exact key cs e
  ·rename_i q u ht;have hval2:=hval;unfold Value.okWide at hval2;rw [ht] at hval2;obtain ⟨cs,e,_⟩:=hval2;exact key cs e
  ·cases hty
theorem UR (K:Kids P (·<P.types.size)) {w:World} {I:Nat→Prop} {base:Nat}:∀ (ts:List TypeId) (dss:List DS) (vs:List Value) (xs:List (DataW H)) (p:List MemPlace),kE P dss ts=true→(∀ t∈ts,t<P.types.size) →
  (∀ (j:Nat) t v,ts[j]?=some t→vs[j]?=some v→Value.okWide P w .any base t v)→DataW.TrodAll enc P w 0 (fun _=>true) true ts vs xs p→(∀ q∈p,I q.block)→∃ az,yix dss az∧eF I w az vs
 | [],[],[],[],p,_,_,_,_,_=>⟨[],by simp only [yix],by simp only [eF]⟩
 | t::ts,d::dss,v::vs,x::xs,p,hty,hrow,hval,h,hI=>by
  unfold kE at hty;simp only [bQ] at hty;obtain ⟨p1,q,h1,h2,rfl⟩:=h;obtain ⟨y,y1,y2,y3⟩:=br K (hrow t (eH ..)) hty.1 (hval 0 t v rfl rfl) h1 (fun z hz=>hI z (List.mem_append_left _ hz));obtain ⟨az,a1,a2⟩:=UR K ts dss vs xs q hty.2 (fun u hu=>hrow u (eE _ hu)) (fun j u z hj hz=>hval (j+1) u z hj hz) h2 (fun z hz=>hI z (List.mem_append_right _ hz));refine ⟨y::az,?_,?_⟩
  ·simp only [yix];exact ⟨y,az,rfl,y1,y2,a1⟩
  ·simp only [eF];exact ⟨v,vs,rfl,y3,a2⟩
 | [],_::_,_,_,_,hty,_,_,_,_=>by unfold kE at hty;cases hty
 | _::_,[],_,_,_,hty,_,_,_,_=>by unfold kE at hty;cases hty
 | [],[],_::_,_,_,_,_,_,h,_=>h.elim
 | [],[],[],_::_,_,_,_,_,h,_=>h.elim
 | _::_,_::_,[],_,_,_,_,_,h,_=>h.elim
 | _::_,_::_,_::_,[],_,_,_,_,h,_=>h.elim
theorem bu (K:Kids P (·<P.types.size)) {n:FuncId} {fn:Func} {G:Nat→Option PV} {dss:List DS} {ts:List TypeId} (hty:kE P dss ts=true) (hrow:∀ t∈ts,t<P.types.size)
  (hf : P.funcs[n]? = some fn) (hn : (fn.name == "runtime.NumGoroutine") = false) (hb : fn.body.isSome = true) (hsum : ∀ az, yix dss az → lD P G n az (.bool true))
  {W:World} {base:Nat} {args:Array Value} {ds:List (DataW H)} {p:List MemPlace} {I:Nat→Prop} (hval:∀ (j:Nat) t v,ts[j]?=some t→args.toList[j]?=some v→Value.okWide P W .any base t v)
  (hA:DataW.TrodAll enc P W 0 (fun _=>true) true ts args.toList ds p) (hI:∀ q∈p,I q.block) (himm:∀ b,I b→b<W.heap.size) (hG:Lo G I W) :
  Calls P n args W fun e W'=>e=.returned (.bool true)∧Below W.heap.size W W':=by
 obtain ⟨az,a1,a2⟩:=UR (I:=I) K ts dss args.toList ds p hty hrow hval hA hI;have h:=hsum az a1 I W args.toList himm hG a2;have e:(callFunc n (args.toList).toArray).run P W=.ok (.enter n args) W:=by
  have h1 : fn.name ≠ "runtime.NumGoroutine" := by simpa using hn
  obtain ⟨c,hc⟩:=BN.1 hb;simp [callFunc,hf,h1,hc]
 unfold kU at h;rw [e] at h;refine Calls.mono h fun e w' he=>?_
 cases e with
 | returned v =>obtain ⟨h1,h2⟩:=he;simp only [VP,dI,RC,iH,and_true] at h2;exact ⟨by rw [h2],h1.toBelow⟩
 | panicked ch=>exact he.elim
 | outgrown=>exact he.elim
theorem bv (K:Kids P (·<P.types.size)) (hz:∀ t e,t<P.types.size→P.underlying t=some (.slice e)→0<P.cellsOf e) {W W':World} (hb:Below W.heap.size W W') {sp:Nat→Bool} :
  ∀ {ts:List TypeId} {vs:List Value} {ds:List (DataW H)} {ps:List MemPlace},(∀ t∈ts,t<P.types.size)→DataW.TrodAll enc P W 0 (fun _=>true) true ts vs ds ps→(∀ p∈ps,p.block<W.heap.size)→(∀ p∈ps,sp p.block=true)→DataW.TrodAll enc P W' 0 sp true ts vs ds ps:=by
 intro ts vs ds ps hT h hlt hs;have carry:∀ {ts:List TypeId} {vs:List Value} {ds:List (DataW H)} {ps:List MemPlace},DataW.TrodAll enc P W 0 (fun _=>true) true ts vs ds ps→(∀ p∈ps,p.block<W.heap.size)→DataW.TrodAll enc P W' 0 (fun _=>true) true ts vs ds ps:=by
  intro ts;induction ts with
  | nil=>
   intro vs ds ps h _
   cases vs with
   | nil=>cases ds with
    | nil=>exact h
    | cons _ _=>exact h.elim
   | cons _ _=>exact h.elim
  | cons t ts ih=>
   intro vs ds ps h hlt
   cases vs with
   | nil=>exact h.elim
   | cons v vs=>cases ds with
    | nil=>exact h.elim
    | cons d ds =>obtain ⟨p,q,⟨n,h1⟩,h2,e⟩:=h;subst e;exact ⟨p,q,⟨n,DataW.trod_carry n _ _ _ h1 (fun x hx=>hb.same (hlt x (List.mem_append_left _ hx)))⟩,ih h2 (fun x hx=>hlt x (List.mem_append_right _ hx)),rfl⟩
 exact DataW.TrodAll.respare K hz hT (carry h hlt) hs
theorem bw {f:Func} {s:ChangeSpec} {yjb fresh handsOn again:Bool} {W W':World} {args:Array Value} {v:Value} {ds gs:List (DataW H)} {before pa pv:List MemPlace}
  (hW:DataW.Whole enc P f.params.toList s.vars yjb W args.toList ds gs before)
  (hres:∀ (b:Nat) (sp:Nat→Bool) (hd:Bool),DataW.TrodAll enc P W' b sp hd f.resultTypes.toList (v.resultList f.resultTypes.size) (s.fn H (ds++gs)).results [])
  (hargs:∀ sp:Nat→Bool,(∀ p∈before,sp p.block=true)→DataW.TrodAll enc P W' 0 sp true f.params.toList args.toList (s.fn H (ds++gs)).args pa)
  (hvars:∀ sp:Nat→Bool,(∀ p∈before,sp p.block=true)→DataW.TrodVars enc P W' sp s.vars (s.fn H (ds++gs)).vars pv)
  (hps:before=pa++pv) (hb:Below W.heap.size W W')
  (hok:∀ (j:Nat) (t:TypeId) (r:Value),f.resultTypes[j]?=some t→(v.resultList f.resultTypes.size)[j]?=some r→Value.okWide P W' .any 0 t r) :
  s.post enc P f yjb fresh handsOn again W args v W':=by
 have hlt:∀ p∈before,p.block<W.heap.size:=fun p hp=>hW.lt p hp
 have hold:∀ p∈before,(fun b=>decide (b<W.heap.size)) p.block=true:=fun p hp=>by simpa using hlt p hp
 refine ⟨ds,gs,before,[],pa,pv,hW,hres _ _ _,hargs _ hold,hvars _ hold,World.keptBut_mono (fun p hp=>⟨hp,?_⟩) (hb.frame (·∈before)),fun _=>?_⟩
 ·rw [hps,qA4] at hp;exact Or.inr hp
 ·obtain ⟨_,_,_,_,_,hz,hn⟩:=hW;refine ⟨hok,_,_,([]++pa)++pv,⟨[]++pa,pv,trodAll_append (hargs _ (fun _ _=>rfl)) (hres _ _ _),hvars _ (fun _ _=>rfl),rfl,?_,?_⟩,?_⟩
  ·intro b off hp;have hin:MemPlace.cell b off∈before:=by rw [hps];simpa using hp
   rw [hb.frozen (hlt _ hin)];exact hz b off hin
  ·intro ha;have:=hn ha;rw [hps] at this;simpa using this
  ·intro p hp _;rw [hps];simpa using hp
theorem bz (K:Kids P (·<P.types.size)) (hz:∀ t e,t<P.types.size→P.underlying t=some (.slice e)→0<P.cellsOf e) {n:FuncId} {fn:Func} {G:Nat→Option PV} {dss:List DS} {s:ChangeSpec} {bt:TypeId}
  (hty : kE P dss fn.params.toList = true) (hrow : ∀ t ∈ fn.params.toList, t < P.types.size) (hf : P.funcs[n]? = some fn) (hn : (fn.name == "runtime.NumGoroutine") = false) (hb : fn.body.isSome = true)
  (hvars:s.vars=[]) (hfn:∀ ds:List (DataW H),ds.length=fn.params.toList.length→s.fn H (ds++[])={ results:=[.lit (.bool true)],args:=ds })
  (hrt:fn.resultTypes.toList=[bt]) (hbt:P.underlying bt=some .bool) (hsum:∀ az,yix dss az→lD P G n az (.bool true)) {yjb fresh handsOn again:Bool}
  {W:World} {base:Nat} {args:Array Value} {ds gs:List (DataW H)} {before:List MemPlace} (hval:∀ (j:Nat) t v,fn.params[j]?=some t→args[j]?=some v→Value.okWide P W .any base t v)
  (hW:DataW.Whole enc P fn.params.toList s.vars yjb W args.toList ds gs before) (J:Nat→Prop) (hJ:∀ b,J b→b<W.heap.size) (hG:Lo G (fun b=>(∃ p∈before,p.block=b)∨J b) W) :
  Calls P n args W fun e W'=>∃ v,e=.returned v∧s.post enc P fn yjb fresh handsOn again W args v W':=by
 have hW':=hW;obtain ⟨p,q,hA,hV,hpq,hfz,hnd⟩:=hW;have hlt:∀ x∈before,x.block<W.heap.size:=fun x hx=>hW'.lt x hx
 rw [hvars] at hV;obtain ⟨hgs,hq⟩:=trodVars_none hV;subst hgs;subst hq;rw [xA] at hpq;subst hpq;have hlen:ds.length=fn.params.toList.length:=by
  have len:∀ {ts:List TypeId} {vs:List Value} {xs:List (DataW H)} {ps:List MemPlace},DataW.TrodAll enc P W 0 (fun _=>true) true ts vs xs ps→xs.length=ts.length:=by
   intro ts;induction ts with
   | nil=>
    intro vs xs ps h
    cases vs with
    | nil=>cases xs with
     | nil=>rfl
     | cons _ _=>exact h.elim
    | cons _ _=>exact h.elim
   | cons t ts ih=>
    intro vs xs ps h
    cases vs with
    | nil=>exact h.elim
    | cons v vs=>cases xs with
     | nil=>exact h.elim
     | cons x xs =>obtain ⟨_,_,_,h2,_⟩:=h;simp [ih h2]
  exact len hA
 have hc:=bu (I:=fun b=>(∃ x∈before,x.block=b)∨J b) K hty hrow hf hn hb hsum (W:=W) (base:=base) (args:=args) (fun j t v h1 h2=>hval j t v (by simpa using h1) (by simpa using h2)) hA (fun x hx=>.inl ⟨x,hx,rfl⟩)
  (fun b hb=>by
   rcases hb with ⟨x,hx,rfl⟩|hb
   ·exact hlt x hx
   ·exact hJ b hb) hG
 refine hc.mono fun e W' ⟨he,hg⟩=>?_
 subst he;have hrs:fn.resultTypes=#[bt]:=by rw [← pA];exact hrt
 refine ⟨_,rfl,bw (pa:=before) (pv:=[]) hW' ?_ ?_ ?_ (by simp) hg ?_⟩
 ·intro b sp hd;rw [hfn ds hlen,hrs];exact trodAll_mk1 (shut_bool hbt true)
 ·intro sp hs;rw [hfn ds hlen];exact bv K hz hg hrow hA hlt hs
 ·intro sp hs;rw [hfn ds hlen,hvars];rfl
 ·intro j t r h1 h2;rw [hrs] at h1 h2;have hj:j=0:=by
   rcases j with _|j
   ·rfl
   ·simp at h1
  subst hj;simp at h1;subst h1;have:r=.bool true:=by
   have h3:((Value.bool true).resultList (#[bt]:Array TypeId).size)[0]?=some (.bool true):=rfl;rw [h3] at h2;exact (Option.some.inj h2).symm
  subst this;exact okWide_bool_mk hbt true
end
end Go.Pf
namespace Go.Pf
open Go
def CB:PV→Value
 | .int k n=>.int k n
 | _=>.bool false
def eP:List IntKind→List PV→Bool
 | [],[]=>true
 | k::ks,.int q n::r=>decide (q=k)&&(decide (k.min≤n)&&(decide (n≤k.max)&&eP ks r))
 | _,_=>false
def CC (ks:List IntKind):PV→Bool
 | .agg cs=>eP ks cs
 | _=>false
def qU (x:PV):List Value:=x.cells.map CB
structure Srt where
 n:Nat
 g:Nat
 ks:List IntKind
 good:PV→Bool
 z:PV
def Srt.gd (s:Srt) (x:PV):Bool:=CC s.ks x&&s.good x
abbrev Srt.El (s:Srt):Type:={x:PV // s.gd x=true}
def Srt.enc (s:Srt) (x:s.El):List Value:=qU x.1
def Srt.rows? (s:Srt):List PV→Option (List s.El)
 | []=>some []
 | x::r=>if h:s.gd x=true then (match s.rows? r with | some l=>some (⟨x,h⟩::l) | none=>none) else none
theorem Srt.rows?_val {s:Srt}:∀ {l:List PV} {d:List s.El},s.rows? l=some d→d.map (·.1)=l
 | [],d,h=>by simp only [Srt.rows?] at h;cases h;rfl
 | x::r,d,h=>by
  simp only [Srt.rows?] at h;split at h
  ·split at h
   ·rename_i l hl
    cases h
    rw [mK,Srt.rows?_val hl]
   ·cases h
  ·cases h
def Srt.sorted (s:Srt) (srt:Array s.El→Array s.El) (l:List PV):List PV:=
 match s.rows? l with
 | some d=>(srt d.toArray).toList.map (·.1)
 | none=>l
def Srt.cond (s:Srt) (rows:List PV) (lo len ext esz:Nat) (fz:Bool):Bool:=
 decide (rows.length=ext)&&(decide (lo+len≤ext)&&(decide (0<len)&&(decide (esz=s.ks.length)&&(!fz&&(decide (len<4611686018427387904)&&(s.rows? ((rows.drop lo).take len)).isSome)))))
def Ft (s:Srt) (srt:Array s.El→Array s.El) (n:Nat) (xs:List PV) (H:Hp):Option (Bool×Bool×(PV×Hp)×(PV×Hp)):=
 bif Nat.beq n s.n then
  (match xs with
   | [.own id lo len ext _,.fn (.func g) [] []]=>
    bif Nat.beq g s.g then
     (match H[id]? with
      | some b=>some (s.cond b.rows lo len ext b.esz b.fz,true,(.tup [],H.set id { b with rows:=b.rows.take lo++(s.sorted srt ((b.rows.drop lo).take len)++b.rows.drop (lo+len)) }),(.nils,[]))
      | none=>none)
    else none
   | [.nils,.fn (.func g) [] []]=>bif Nat.beq g s.g then some (true,true,(.tup [],H),(.nils,[])) else none
   | [.emp,.fn (.func g) [] []]=>bif Nat.beq g s.g then some (true,true,(.tup [],H),(.nils,[])) else none
   | _=>none)
 else none
theorem ca {s:Srt} {srt:Array s.El→Array s.El} {n:Nat} {xs:List PV} {H:Hp} {x:Bool×Bool×(PV×Hp)×(PV×Hp)} (h:Ft s srt n xs H=some x):n=s.n:=by
 unfold Ft at h
 cases hb:Nat.beq n s.n with
 | true=>exact eJ hb
 | false=>rw [hb] at h;cases h
structure Srts where
 s:Srt
 cf:s.El→s.El→Int
def Srts.srt (s:Srts) [Inhabited s.s.El] (d:Array s.s.El):Array s.s.El:=Go.Sort.pdq (fun x y=>decide (s.cf x y<0)) d 0 d.size (Go.Lib.bitLen d.size) true true
abbrev fZ:Type:=Nat→List PV→Hp→Option (Bool×Bool×(PV×Hp)×(PV×Hp))
def uE:List (Nat×fZ)→fZ
 | [],_,_,_=>none
 | (k,e)::r,n,xs,H=>bif Nat.beq n k then (match e n xs H with | some x=>some x | none=>uE r n xs H) else uE r n xs H
theorem US:∀ {l:List (Nat×fZ)} {n:Nat} {xs:List PV} {H:Hp} {x:Bool×Bool×(PV×Hp)×(PV×Hp)},uE l n xs H=some x→∃ e∈l,n=e.1
 | [],_,_,_,_,h=>by cases h
 | (k,e)::r,n,xs,H,x,h=>by
  simp only [uE] at h
  cases hb:Nat.beq n k with
  | true=>exact ⟨(k,e),eH,eJ hb⟩
  | false =>rw [hb,cond_false] at h;obtain ⟨e2,h1,h2⟩:=US h;exact ⟨e2,eE _ h1,h2⟩
theorem Mi {P:Program} {E:Env}:∀ {l:List (Nat×fZ)},(∀ e∈l,ybr P E (fun n xs H=>qE (e.2 n xs H)))→ybr P E (fun n xs H=>qE (uE l n xs H))
 | [],_=>fun _ _ _ _ _ h=>by cases h
 | (k,e)::r,h=>by
  intro f args H q H' hc;dsimp only [uE] at hc
  cases hb:Nat.beq f k with
  | false =>rw [hb,cond_false] at hc;exact Mi (fun e2 h2=>h e2 (eE _ h2)) f args H q H' hc
  | true=>
   rw [hb,cond_true] at hc
   cases he:e f args H with
   | some x =>rw [he] at hc;refine h (k,e) eH f args H q H' ?_;dsimp only;rw [he];exact hc
   | none =>rw [he] at hc;exact Mi (fun e2 h2=>h e2 (eE _ h2)) f args H q H' hc
def sM (add sub:Nat) (tab:List (Nat×AFn)) (qui:List Nat) (cl:mP) (gl:List (Nat×PV)) (ef:List (Nat×fZ)):Env:={ qT add sub tab qui cl gl with eff:=uE ef }
theorem dW {add sub:Nat} {tab:List (Nat×AFn)} {qui:List Nat} {cl:mP} {gl:List (Nat×PV)} {ef:List (Nat×fZ)} {n:Nat} (h:CA add sub cl n=false) (xs:List PV):(sM add sub tab qui cl gl ef).sum n xs=none:=bi (tab:=tab) (qui:=qui) (gl:=gl) h xs
theorem cb {add sub:Nat} {tab:List (Nat×AFn)} {qui:List Nat} {cl:mP} {gl:List (Nat×PV)} {ef:List (Nat×fZ)} (h:(ef.all fun e=>!memN qui e.1&&(!CA add sub cl e.1&&!memN qui (e.1+3000000)))=true):Fq (sM add sub tab qui cl gl ef):=by intro n xs H x hx;obtain ⟨e,h1,rfl⟩:=US hx;have h2:=tL.1 h e h1;simp only [bQ,jR] at h2;exact ⟨h2.1,rfl,fun xs=>dW (tab:=tab) (qui:=qui) (gl:=gl) (ef:=ef) h2.2.1 xs,h2.2.2⟩
theorem UT {P:Program} {add sub:Nat} {tab:List (Nat×AFn)} {qui:List Nat} {cl:mP} {gl:List (Nat×PV)} {ef:List (Nat×fZ)} (h:EO P (qT add sub tab qui cl gl))
  (hs:∀ e∈ef,∀ y,ybr P ((qT add sub tab qui cl gl).ats y) (fun n xs H=>qE (e.2 n xs H))):EO P (sM add sub tab qui cl gl ef) where
 sum:=h.sum
 fns:=h.fns
 eff:=EO.eff' (E:=qT add sub tab qui cl gl) (E':=sM add sub tab qui cl gl ef) rfl rfl rfl fun y _=>Mi fun e he=>hs e he y
 dn:=h.dn
 top:=h.top
 yl:=h.yl' (E':=sM add sub tab qui cl gl ef) rfl rfl rfl rfl
end Go.Pf
namespace Go.Pf
abbrev lt {α:Type} (x:α) (f:α→Prop):Prop:=f x
abbrev jn {α:Type} (f:α→Prop) (k:α):Prop:=f k
def Ii (n d:Int):Bool:=decide (1≤d)&&(decide (d≤1000000000000000000)&&(decide (-1000000000000000000≤n)&&(decide (n≤1000000000000000000)&&decide (Nat.gcd n.natAbs d.natAbs=1))))
def kF (a b c d:Int):Int:=if a*d<c*b then -1 else if c*b<a*d then 1 else 0
def AG:PV→Bool
 | .agg [.int _ a,.int _ b,_,_]=>Ii a b
 | _=>false
def cd:PV→Bool
 | .agg [.int _ a,.int _ b]=>Ii a b
 | _=>false
def pN:PV→PV→Int
 | .agg [.int _ a,.int _ b,_,_],.agg [.int _ c,.int _ d,_,_]=>kF a b c d
 | _,_=>0
def ce:PV→PV→Int
 | .agg [.int _ a,.int _ b],.agg [.int _ c,.int _ d]=>kF a b c d
 | _,_=>0
def nM (n g:Nat):Srts:=⟨⟨n,g,[.i64,.i64,.i64,.i64],AG,.agg [.int .i64 0,.int .i64 1,.int .i64 0,.int .i64 1]⟩,fun x y=>pN x.1 y.1⟩
def cg (n g:Nat):Srts:=⟨⟨n,g,[.i64,.i64],cd,.agg [.int .i64 0,.int .i64 1]⟩,fun x y=>ce x.1 y.1⟩
instance (n g:Nat):Inhabited (nM n g).s.El:=⟨⟨.agg [.int .i64 0,.int .i64 1,.int .i64 0,.int .i64 1],rfl⟩⟩
instance (n g:Nat):Inhabited (cg n g).s.El:=⟨⟨.agg [.int .i64 0,.int .i64 1],rfl⟩⟩
theorem UU {n:Nat} {xs:List PV} {H:Hp}:∀ {l:List (Nat×fZ)},memN (l.map (·.1)) n=false→uE l n xs H=none
 | [],_=>rfl
 | (k,e)::r,h=>by
  simp only [mK,memN] at h;simp only [uE]
  cases hb:Nat.beq k n with
  | true=>rw [hb] at h;cases h
  | false=>
   rw [hb,cond_false] at h;have hb2:Nat.beq n k=false:=by
    cases hc:Nat.beq n k with
    | false=>rfl
    | true=>
     have:=eJ hc;subst this;rw [Nat.beq_refl] at hb
     cases hb
   rw [hb2,cond_false];exact UU h
structure EffG (E:List (Nat×fZ)→Env) (nums:List Nat) (e:List (Nat×fZ)):Prop where
 ok:Fq (E e)
 num:∀ n,memN nums n=false→∀ xs H,(E e).eff n xs H=none
theorem ci {add sub:Nat} {tab:List (Nat×AFn)} {qui:List Nat} {cl:mP} {gl:List (Nat×PV)} {ef:List (Nat×fZ)}:∀ az K,yq7 az K→∃ r,K r∧Ans (sM add sub tab qui cl gl ef) add az r:=by
 intro az K h;unfold yq7 Mf at h;split at h
 ·rename_i a b c;obtain ⟨h1,h⟩:=bJ.1 h;have h1:c.toNat≤1:=by simpa using h1
  refine ⟨_,h,0,fun k e m _ hl _=>?_⟩;have hl:=(qP hl).2.1;have e0:sumC add sub add [.int .u64 a,.int .u64 b,.int .u64 c]=some (.tup [u6 ((a.toNat+b.toNat+c.toNat)%18446744073709551616),u6 ((a.toNat+b.toNat+c.toNat)/18446744073709551616)]):=by
   simp only [sumC,Nat.beq_refl,gH,BP h1,cond_true]
  simp only [ydk,hl,sM,qT,e0,u6]
 ·exact h.elim
theorem cj {add sub:Nat} (hne:Nat.beq sub add=false) {tab:List (Nat×AFn)} {qui:List Nat} {cl:mP} {gl:List (Nat×PV)} {ef:List (Nat×fZ)}:∀ az K,yq9 az K→∃ r,K r∧Ans (sM add sub tab qui cl gl ef) sub az r:=by
 intro az K h;unfold yq9 Mg at h;split at h
 ·rename_i a b c;obtain ⟨h1,h⟩:=bJ.1 h;have h1:c.toNat≤1:=by simpa using h1
  refine ⟨_,h,0,fun k e m _ hl _=>?_⟩;have hl:=(qP hl).2.1;have e0:sumC add sub sub [.int .u64 a,.int .u64 b,.int .u64 c]=some (.tup [u6 ((a.toNat+18446744073709551616-b.toNat-c.toNat)%18446744073709551616),u6 (bif Nat.ble (b.toNat+c.toNat) a.toNat then 0 else 1)]):=by
   simp only [sumC,hne,Nat.beq_refl,gH,jS,BP h1,cond_true,cond_false]
  simp only [ydk,hl,sM,qT,e0,u6]
 ·exact h.elim
end Go.Pf
namespace Go.Pf
open Go Go.Sort
theorem Srts.sorted_is (S:Srts) [Inhabited S.s.El] (h:SWO (fun x y=>decide (S.cf x y<0))) {rows:List PV} {d:List S.s.El} (hd:S.s.rows? rows=some d) :
  ∃ d':List S.s.El,d'.Perm d∧d'.Pairwise (fun x y=>¬S.cf y x<0)∧Srt.sorted S.s S.srt rows=d'.map (·.1):=by
 have e:Srt.sorted S.s S.srt rows=(S.srt d.toArray).toList.map (·.1):=by unfold Srt.sorted;rw [hd]
 obtain ⟨⟨h1,_,h3⟩,h4⟩:=pdq_sorts _ h d.toArray 0 d.toArray.size (Go.Lib.bitLen d.toArray.size) true true (iB _) (bW _) (Or.inl rfl);refine ⟨(S.srt d.toArray).toList,?_,?_,e⟩
 ·have h5:(S.srt d.toArray).size=d.toArray.size:=h1;have e1:(S.srt d.toArray).extract 0 d.toArray.size=S.srt d.toArray:=by rw [← h5];exact Array.extract_size
  have e2:d.toArray.extract 0 d.toArray.size=d.toArray:=Array.extract_size;have h6:((S.srt d.toArray).extract 0 d.toArray.size).toList.Perm (d.toArray.extract 0 d.toArray.size).toList:=h3;rw [e1,e2] at h6;simpa using h6
 ·have h5:(S.srt d.toArray).size=d.toArray.size:=h1;rw [List.pairwise_iff_getElem];intro i j hi hj hij hlt;rw [wY] at hi hj;have h6:SortedIn (fun x y=>decide (S.cf x y<0)) 0 d.toArray.size (S.srt d.toArray):=h4;have:=h6 i j (iB _) hij (by rw [← h5];exact hj);rw [getElem!_pos (S.srt d.toArray) i hi,getElem!_pos (S.srt d.toArray) j hj] at this;simp only [Array.getElem_toList] at hlt;simp [hlt] at this
end Go.Pf
namespace Go.Pf
abbrev Es:Type:=List (Nat×fZ)
def Ij:Option Bool→Prop | none=>True | some b=>b=true
def Fu:Option Bool→Prop→Prop | none,x=>x | some b,x=>aA b x
theorem Ik {g:Option Bool} {x:Prop}:Fu g x↔Ij g∧x:=by cases g<;>simp [Fu,Ij,bJ]
def blen (H:Hp) (id:Nat):Nat:=match H[id]? with | some b=>b.rows.length | none=>0
structure Pat (α:Type) where
 T:Type
 A:Type→Type
 app:{R:Type}→A R→T→R
 of:(Nat→Nat)→T→α
 get:(Nat→Nat)→α→Option Bool→Option (T×Option Bool)
 inv:∀ {H x g t g'},get H x g=some (t,g')→Ij g'→Ij g∧x=of H t
section
variable {α β:Type}
def Fv:Pat α:=⟨α,fun R=>α→R,fun g t=>g t,fun _ t=>t,fun _ x g=>some (x,g),fun h k=>by cases h;exact ⟨k,rfl⟩⟩
def qV (c:α) (f:α→Bool) (h:∀ x,f x=true→x=c):Pat α:=
 ⟨Unit,fun R=>R,fun g _=>g,fun _ _=>c,fun _ x g=>bif f x then some ((),g) else none,fun {H x g t g'} e k=>by
  cases hf:f x with
  | true=>rw [hf] at e;cases e;exact ⟨k,h _ hf⟩
  | false=>rw [hf] at e;cases e⟩
def gX (m:β→α) (s:α→Option β) (h:∀ x b,s x=some b→x=m b) (p:Pat β):Pat α:=
 ⟨p.T,p.A,p.app,fun H t=>m (p.of H t),fun H x g=>match s x with | none=>none | some b=>p.get H b g,fun {H x g t g'} e k=>by
  cases hs:s x with
  | none=>rw [hs] at e;cases e
  | some b=>
   rw [hs] at e;obtain ⟨h1,h2⟩:=p.inv e k;exact ⟨h1,by rw [h _ _ hs,h2]⟩⟩
def xS (p:Pat α) (q:Pat β):Pat (α×β):=
 ⟨p.T×q.T,fun R=>p.A (q.A R),fun g t=>q.app (p.app g t.1) t.2,fun H t=>(p.of H t.1,q.of H t.2),
  fun H x g=>match p.get H x.1 g with | none=>none | some (a,g1)=>(match q.get H x.2 g1 with | none=>none | some (b,g2)=>some ((a,b),g2)),fun {H x g t g'} e k=>by
   cases h1:p.get H x.1 g with
   | none=>rw [h1] at e;cases e
   | some y=>
    obtain ⟨a,g1⟩:=y;rw [h1] at e;simp only at e
    cases h2:q.get H x.2 g1 with
    | none=>rw [h2] at e;cases e
    | some z=>
     obtain ⟨b,g2⟩:=z;rw [h2] at e
     cases e
     obtain ⟨k2,e2⟩:=q.inv h2 k;obtain ⟨k1,e1⟩:=p.inv h1 k2;exact ⟨k1,Prod.ext e1 e2⟩⟩
end
def nK (n:Nat):Pat Nat:=qV n (fun x=>Nat.beq x n) fun _ h=>eJ h
def nT (id:Nat):Pat Nat:=
 ⟨Unit,fun R=>R,fun g _=>g,fun H _=>H id,fun H x g=>some ((),match g with | none=>some (decide (x=H id)) | some b=>some (b&&decide (x=H id))),fun {H x g t g'} e k=>by
  cases e
  cases g with
  | none=>exact ⟨trivial,of_decide_eq_true k⟩
  | some b=>
   have k:(b&&decide (x=H id))=true:=k;simp only [bQ,decide_eq_true_eq] at k;exact ⟨k.1,k.2⟩⟩
abbrev nV:Pat Nat:=Fv
abbrev jE:Type 1:=Pat (List PV)
abbrev fH:Type 1:=Pat PV
def vI (k:IntKind):fH:=gX (.int k) (fun x=>match x with | .int q n=>bif decide (q=k) then some n else none | _=>none) (fun x b h=>by
 split at h
 ·rename_i q n
  by_cases e:q=k
  ·subst e;rw [Os rfl] at h;cases h;rfl
  ·rw [Po e] at h;cases h
 ·cases h) Fv
def vB:fH:=gX .bool (fun x=>match x with | .bool b=>some b | _=>none) (fun x b h=>by cases x<;>cases h;rfl) Fv
def cm (p:jE):fH:=gX .data (fun x=>match x with | .data b=>some b | _=>none) (fun x b h=>by cases x<;>cases h;rfl) p
def vD:fH:=cm Fv
def vA (p:jE):fH:=gX .agg (fun x=>match x with | .agg b=>some b | _=>none) (fun x b h=>by cases x<;>cases h;rfl) p
def Fw:fH:=qV .nils (fun x=>match x with | .nils=>true | _=>false) fun x h=>by cases x<;>cases h;rfl
def vP (id o:Nat) (e i:Pat Nat):fH:=gX (fun b=>.ptr id b.1 b.2 o) (fun x=>match x with | .ptr a e i f=>bif Nat.beq a id&&Nat.beq f o then some (e,i) else none | _=>none) (fun x b h=>by
 split at h
 ·rename_i a e i f
  cases hc:(Nat.beq a id&&Nat.beq f o) with
  | false=>rw [hc] at h;cases h
  | true=>
   rw [hc] at h;simp only [bQ] at hc
   cases h
   rw [eJ hc.1,eJ hc.2]
 ·cases h) (xS e i)
def vX (o:Nat) (p:fH):fH:=gX (fun b=>.eptr [b] 0 o) (fun x=>match x with | .eptr [y] i f=>bif Nat.beq i 0&&Nat.beq f o then some y else none | _=>none) (fun x b h=>by
 split at h
 ·rename_i y i f
  cases hc:(Nat.beq i 0&&Nat.beq f o) with
  | false=>rw [hc] at h;cases h
  | true=>
   rw [hc] at h;simp only [bQ] at hc
   cases h
   rw [eJ hc.1,eJ hc.2]
 ·cases h) p
def vW (id:Nat) (lo len ext:Pat Nat):fH:=gX (fun b=>.own id b.1 b.2.1 b.2.2 none) (fun x=>match x with | .own a lo len ext none=>bif Nat.beq a id then some (lo,len,ext) else none | _=>none) (fun x b h=>by
 split at h
 ·rename_i a lo len ext
  cases hc:Nat.beq a id with
  | false=>rw [hc] at h;cases h
  | true=>rw [hc] at h;cases h;rw [eJ hc]
 ·cases h) (xS lo (xS len ext))
def vF (n:Nat) (p q:jE):fH:=gX (fun b=>.fn (.func n) b.1 b.2) (fun x=>match x with | .fn (.func k) a b=>bif Nat.beq k n then some (a,b) else none | _=>none) (fun x b h=>by
 split at h
 ·rename_i k a b
  cases hc:Nat.beq k n with
  | false=>rw [hc] at h;cases h
  | true=>rw [hc] at h;cases h;rw [eJ hc]
 ·cases h) (xS p q)
def lN:jE:=qV [] (fun x=>match x with | []=>true | _::_=>false) fun x h=>by cases x<;>cases h;rfl
def lC (p:fH) (q:jE):jE:=gX (fun b=>b.1::b.2) (fun x=>match x with | y::r=>some (y,r) | []=>none) (fun x b h=>by cases x<;>cases h;rfl) (xS p q)
def fN:Pat aG:=qV [] (fun x=>match x with | []=>true | _::_=>false) fun x h=>by cases x<;>cases h;rfl
def fV (s:Nat) (p:fH) (q:Pat aG):Pat aG:=gX (fun b=>(s,.v b.1)::b.2) (fun x=>match x with | (k,.v y)::r=>bif Nat.beq k s then some (y,r) else none | _=>none) (fun x b h=>by
 split at h
 ·rename_i k y r
  cases hc:Nat.beq k s with
  | false=>rw [hc] at h;cases h
  | true=>rw [hc] at h;cases h;rw [eJ hc]
 ·cases h) (xS p q)
def fX (s:Nat) (p:fH) (q:Pat aG):Pat aG:=gX (fun b=>(s,.box b.1)::b.2) (fun x=>match x with | (k,.box y)::r=>bif Nat.beq k s then some (y,r) else none | _=>none) (fun x b h=>by
 split at h
 ·rename_i k y r
  cases hc:Nat.beq k s with
  | false=>rw [hc] at h;cases h
  | true=>rw [hc] at h;cases h;rw [eJ hc]
 ·cases h) (xS p q)
def cn:Pat Hp:=qV [] (fun x=>match x with | []=>true | _::_=>false) fun x h=>by cases x<;>cases h;rfl
def co (fz pu:Bool) (esz:Nat) (p:jE) (q:Pat Hp):Pat Hp:=gX (fun b=>⟨fz,pu,esz,b.1⟩::b.2) (fun x=>match x with | ⟨a,b,c,rows⟩::r=>bif (a==fz)&&((b==pu)&&Nat.beq c esz) then some (rows,r) else none | []=>none) (fun x b h=>by
 split at h
 ·rename_i a b c rows r
  cases hc:((a==fz)&&((b==pu)&&Nat.beq c esz)) with
  | false=>rw [hc] at h;cases h
  | true=>
   rw [hc] at h;simp only [bQ,beq_iff_eq] at hc
   cases h
   rw [hc.1,hc.2.1,eJ hc.2.2]
 ·cases h) (xS p q)
structure RPt where
 p:jE
 n:∀ r r' t,(p.of r t).length=(p.of r' t).length
structure HPt where
 p:Pat Hp
 n:∀ r r' t id,blen (p.of r t) id=blen (p.of r' t) id
def rA:RPt:=⟨Fv,fun _ _ _=>rfl⟩
def rN:RPt:=⟨lN,fun _ _ _=>rfl⟩
def rC (p:fH) (q:RPt):RPt:=⟨lC p q.p,fun r r' t=>Sl (·+1) (q.n r r' t.2)⟩
def hN:HPt:=⟨cn,fun _ _ _ _=>rfl⟩
def hB (fz pu:Bool) (esz:Nat) (p:RPt) (q:HPt):HPt:=⟨co fz pu esz p.p q.p,fun r r' t id=>by
 cases id with
 | zero=>exact p.n r r' t.1
 | succ k=>exact q.n r r' t.2 k⟩
abbrev pO:Type:=Hp×aG×aG
abbrev r0:Nat→Nat:=fun _=>0
def pS (h:HPt) (p o:Pat aG):Pat pO:=
 ⟨h.p.T×p.T×o.T,fun R=>h.p.A (p.A (o.A R)),fun g t=>o.app (p.app (h.p.app g t.1) t.2.1) t.2.2,fun _ t=>(h.p.of (blen (h.p.of r0 t.1)) t.1,p.of (blen (h.p.of r0 t.1)) t.2.1,o.of (blen (h.p.of r0 t.1)) t.2.2),
  fun _ x g=>match h.p.get (blen x.1) x.1 g with | none=>none | some (a,g1)=>(match p.get (blen x.1) x.2.1 g1 with | none=>none | some (b,g2)=>(match o.get (blen x.1) x.2.2 g2 with | none=>none | some (c,g3)=>some ((a,b,c),g3))),fun {H x g t g'} e k=>by
   obtain ⟨X,Y,Z⟩:=x
   cases h1:h.p.get (blen X) X g with
   | none=>simp only [h1] at e;cases e
   | some y=>
    obtain ⟨a,g1⟩:=y;simp only [h1] at e
    cases h2:p.get (blen X) Y g1 with
    | none=>rw [h2] at e;cases e
    | some z=>
     obtain ⟨b,g2⟩:=z;rw [h2] at e;simp only at e
     cases h3:o.get (blen X) Z g2 with
     | none=>rw [h3] at e;cases e
     | some w=>
      obtain ⟨c,g3⟩:=w;rw [h3] at e
      cases e
      obtain ⟨k3,e3⟩:=o.inv h3 k;obtain ⟨k2,e2⟩:=p.inv h2 k3;obtain ⟨k1,e1⟩:=h.p.inv h1 k2;refine ⟨k1,?_⟩;show (X,Y,Z)=(h.p.of (blen (h.p.of r0 a)) a,p.of (blen (h.p.of r0 a)) b,o.of (blen (h.p.of r0 a)) c);have e4:blen (h.p.of r0 a)=blen X:=funext fun id=>by
       rw [h.n r0 (blen X) a id,← e1]
      rw [e4,← e1,← e2,← e3]⟩
structure St where
 p:Pat pO
 g:Nat→p.A Prop
def runS:List St→Nat→pO→Prop
 | [],_,_=>False
 | s::r,n,x=>match s.p.get r0 x none with | some (t,b)=>Fu b (s.p.app (s.g n) t) | none=>runS r n x
def qW:List St→pO→Prop
 | [],_=>False
 | s::r,x=>match s.p.get r0 x none with | some (t,b)=>Fu b (∃ n,s.p.app (s.g n) t) | none=>qW r x
theorem UV {x:pO}:∀ {L:List St},qW L x→∃ n,runS L n x
 | [],h=>h.elim
 | s::r,h=>by
  unfold qW at h;unfold runS;split at h
  ·rename_i t b e;obtain ⟨hb,n,h⟩:=Ik.1 h;exact ⟨n,Ik.2 ⟨hb,h⟩⟩
  ·obtain ⟨n,h⟩:=UV h;exact ⟨n,h⟩
theorem Mj {x:pO} {n:Nat}:∀ {L:List St},runS L n x→∃ s,s∈L∧∃ t,x=s.p.of r0 t∧s.p.app (s.g n) t
 | [],h=>h.elim
 | s::r,h=>by
  unfold runS at h;split at h
  ·rename_i t b e;obtain ⟨hb,h⟩:=Ik.1 h;exact ⟨s,eH,t,(s.p.inv e hb).2,h⟩
  ·obtain ⟨s',h1,h2⟩:=Mj h;exact ⟨s',eE _ h1,h2⟩
def Fx (gc:Bool) (L:List St) (n:Nat) (G:aG) (k:Nat) (F':aG) (H':Hp):Prop:=runS L n (bif gc then EF F' k H' else H',F',G)
def AllB (E:Env) (callK:CK) (lp:LP) (yk:aG→YK) (b:TC) (gc:Bool) (Q:Qx) (L:List St):List St→Prop
 | []=>True
 | s::r=>(∀ t,s.p.app (s.g 0) t=False)∧(∀ n t,WC E callK lp (s.p.of r0 t).2.2 (yk (s.p.of r0 t).2.2) b (s.p.of r0 t).2.1 (s.p.of r0 t).1 (Ur (Fx gc L n (s.p.of r0 t).2.2 (s.p.of r0 t).1.length) Q)=s.p.app (s.g (n+1)) t)∧AllB E callK lp yk b gc Q L r
theorem AllB.mem {E:Env} {callK:CK} {lp:LP} {yk:aG→YK} {b:TC} {gc:Bool} {Q:Qx} {L:List St}:∀ {l:List St},AllB E callK lp yk b gc Q L l→∀ s∈l,(∀ t,s.p.app (s.g 0) t=False)∧(∀ n t,WC E callK lp (s.p.of r0 t).2.2 (yk (s.p.of r0 t).2.2) b (s.p.of r0 t).2.1 (s.p.of r0 t).1 (Ur (Fx gc L n (s.p.of r0 t).2.2 (s.p.of r0 t).1.length) Q)=s.p.app (s.g (n+1)) t)
 | [],_,s,h=>by cases h
 | x::r,h,s,hs=>by
  rcases qAq.1 hs with rfl|hs
  ·exact ⟨h.1,h.2.1⟩
  ·exact AllB.mem h.2.2 s hs
section
variable {E:Env} {callK:CK} {P:EP} {lp:LP} {yk:aG→YK} {b:TC} {Q:Qx} {L:List St} {id:Nat} {F G:aG} {H:Hp}
theorem cJ.st (hP:aQ P E) (hG:Good P callK) (hY:cS P E (yk G)) (hl:LpOk P E lp G b) (hb:AllB E callK lp yk b false Q L L) (h:qW L (H,F,G)) (hf:gE b=true:=by kernel_rfl):cJ P (.loop id b) F H Q:=by
 obtain ⟨n,h⟩:=UV h;refine cJ.intro (id:=id) hP hG hf hY hl (fun n F H=>runS L n (H,F,G)) (fun F H h=>?_) (fun n F H h=>?_) n F H h
 ·obtain ⟨s,hs,t,_,h⟩:=Mj h;rw [(hb.mem s hs).1 t] at h;exact h
 ·obtain ⟨s,hs,t,e,h⟩:=Mj h;rw [← (hb.mem s hs).2 n t,← e] at h;exact h
end
abbrev dF (S:SE) (d:Nat) (yk:aG→YK) (b:TC) (gc:Bool) (L:Qx→List St):Prop:=∀ Q,AllB S.E (jD S d) S.lp yk b gc Q (L Q) (L Q)
abbrev a:aG→YK:=fun _=>oH
abbrev dG (P:EP) (lp:LP) (G:aG) (id:Nat) (c:TC):Prop:=∀ F H Q,lp id G F H Q→cJ P c F H Q
def eQ:List (Nat×(Qx→List St))→LP
 | [],_,_,_,_,_=>False
 | p::r,id,G,F,H,Q=>bif Nat.beq id p.1 then qW (p.2 Q) (H,F,G) else eQ r id G F H Q
structure Sg where
 p:jE
 R:Type
 k:(PV→Prop)→R
abbrev Sg.W (s:Sg):Type:=s.p.A (s.R→Prop)
def Sg.pw (s:Sg) (w:s.W) (az:List PV) (K:PV→Prop):Prop:=match s.p.get r0 az none with | some (t,b)=>Fu b (s.p.app w t (s.k K)) | none=>False
def sE (E:Env) (l:List (Nat×(List PV→(PV→Prop)→Prop))) (lp:LP):SE:=⟨E,yeY l,yez [],lp,fun _=>none⟩
def dJ:LP:=fun _ _ _ _ _=>False
def bR (S:SE) (d:Nat) (t:TFn) (s:Sg) (w:s.W):Prop:=∀ a K,WP S d t (s.p.of r0 a) K=s.p.app w a (s.k K)
theorem Sg.inv {s:Sg} {w:s.W} {az:List PV} {K:PV→Prop} (h:s.pw w az K):∃ a,az=s.p.of r0 a∧s.p.app w a (s.k K):=by
 unfold Sg.pw at h;split at h
 ·rename_i t b e;obtain ⟨hb,h⟩:=Ik.1 h;exact ⟨t,(s.p.inv e hb).2,h⟩
 ·exact h.elim
theorem cp {P:EP} {S:SE} {d n:Nat} {t:TFn} {s:Sg} {w:s.W} (hq:bR S d t s w) (hS:SEOk P S) (hR:bH P S.E (jD S d) t.body) (hl:LpOk P S.E S.lp [] t.body) (hs:∀ az,S.E.sum n az=none) (he:∀ az H,S.E.eff n az H=none) (hf:S.E.fns n=some t.fn) (hu:S.E.qui n=true) (hn:S.E.nl n=false):∀ az K,s.pw w az K→∃ r,K r∧gW P n az r:=fun az K h=>by obtain ⟨a,e,k⟩:=Sg.inv h;subst e;rw [← hq a K] at k;exact ay hS hR hl hf hu hs he k hn
end Go.Pf
namespace Go.Pf
open Go Go.RowKit
def dp1 (H:Hp) (x:PV):Option PV:=
 match yeg H x with
 | some (q,_)=>some q
 | none=>(match x with
  | .own id lo len ext _=>(match H[id]? with
   | some b=>if b.rows.length=ext∧lo+len≤ext then (match ydT H ((b.rows.drop lo).take len) with
    | some (ys,_)=>some (.data ys)
    | none=>none) else none
   | none=>none)
  | _=>none)
def dpL (H:Hp):List PV→Option (List PV)
 | []=>some []
 | x::r=>match dp1 H x with
  | some y=>(match dpL H r with | some ys=>some (y::ys) | none=>none)
  | none=>none
def dpV (H:Hp):PV→Option PV
 | .agg cs=>(match dpL H cs with | some ys=>some (.agg ys) | none=>none)
 | .ptr id ext i off=>(match H[id]? with
  | some b=>if b.rows.length=ext then (match b.rows[i]? with
   | some (.agg cs)=>(match dpL H cs with | some ys=>some (.eptr [.agg ys] 0 off) | none=>none)
   | _=>none) else none
  | none=>none)
 | x=>dp1 H x
def dpA (H:Hp):List PV→Option (List PV)
 | []=>some []
 | x::r=>match dpV H x with
  | some y=>(match dpA H r with | some ys=>some (y::ys) | none=>none)
  | none=>none
section
variable {P:Program} {E:Env} {nt:Nat} {g g1:Gh} {F:aG} {H Hi:Hp} {tmps:Array Value} {w:World}
theorem UW {g':Gh} {H':Hp} (_:Rel E nt g1 F Hi tmps w) (hi:∀ b,RngR g1 b→g1.I b) (r:Rel E nt g' F H' tmps w) (n:Nx g1 g' Hi H' w w):sK g'.I g1.I w w:=
 fun b hb=>⟨(n.immb b (r.imm b hb) hb).elim id (hi b),rfl⟩
theorem UX (hr:Rel E nt g1 F Hi tmps w) (hi:∀ b,RngR g1 b→g1.I b) {x q:PV} {v:Value} (h:VR g1 Hi w x v) (hq:dp1 Hi x=some q):RC g1.I w q [v]∧q.one=true:=by
 unfold dp1 at hq;split at hq
 ·rename_i q' H' hp
  cases hq
  obtain ⟨g',r',n',_,_,h3,_⟩:=Ce hr h hp;have h4:=gL (UW hr hi r' n') _ _ h3;refine ⟨h4,?_⟩;unfold yeg at hp;split at hp
  ·cases hp;rfl
  ·cases hp;rfl
  ·cases hp;rfl
  ·cases hp;rfl
  ·cases hp;rfl
  ·cases hp;rfl
  ·split at hp
   ·split at hp
    ·cases hp;rfl
    ·cases hp
   ·cases hp
  ·cases hp
 ·split at hq
  ·rename_i id lo len ext cap _;split at hq
   ·rename_i hb e;split at hq
    ·rename_i hc;split at hq
     ·rename_i ys H1 hp
      cases hq
      refine ⟨?_,rfl⟩;simp only [VR] at h;obtain ⟨hb',ad,c,e',hle,hv,hc1,hm,hcc,hcond⟩:=h;rw [e] at e';cases e';obtain ⟨b,o1,hρ,hle2,had,_,_⟩:=hcond hc.1;obtain ⟨b',o',hk⟩:=hr.heap id hb e;have hk1:=hk.at_;rw [hρ] at hk1;cases hk1;obtain ⟨g2,r2,n2,p2,l2,c2⟩:=Lt _ ys _ Hi H1 g1 hr (EX hk.rows lo len) hp;have hkp:=UW hr hi r2 n2;simp only [RC];have hl:ys.length=len:=by rw [l2,iW,iX];omega
      refine ⟨some ad,len,c,by rw [hv],hl.symm,hc1,hm,?_⟩
      by_cases hz:len=0
      ·left;exact jA (by omega)
      ·right;refine ⟨b,o1+lo*hb.esz,hb.esz,by rw [had (by omega)],hi b ⟨id,o1,hρ⟩,hk.esz,pF _ _ _ _ fun i x hx=>?_⟩;obtain ⟨vs,k1,k2,k3⟩:=mB _ _ _ _ i x c2 hx;exact ⟨vs,k1,gL hkp x vs k2,k3⟩
     ·cases hq
    ·cases hq
   ·cases hq
  ·cases hq
theorem Mk (hr:Rel E nt g1 F Hi tmps w) (hi:∀ b,RngR g1 b→g1.I b):∀ (cs ys:List PV) (vs:List Value),bG g1 Hi w cs vs→dpL Hi cs=some ys→yaQ g1.I w ys vs
 | [],ys,vs,h,hq=>by simp only [dpL,bV] at hq;subst hq;simpa only [bG,yaQ] using h
 | x::r,ys,vs,h,hq=>by
  simp only [dpL] at hq;split at hq
  ·rename_i y hy;split at hq
   ·rename_i ys' hys
    cases hq
    simp only [bG] at h;obtain ⟨v,vr,rfl,ho,h1,h2⟩:=h;obtain ⟨k1,k2⟩:=UX hr hi h1 hy;simp only [yaQ];exact ⟨v,vr,rfl,k2,k1,Mk hr hi r ys' vr h2 hys⟩
   ·cases hq
  ·cases hq
theorem cq (hr:Rel E nt g1 F Hi tmps w) (hi:∀ b,RngR g1 b→g1.I b) {x q:PV} {v:Value} (h:VR g1 Hi w x v) (hq:dpV Hi x=some q):dI g1.I w q v:=by
 have base:∀ {q:PV},dp1 Hi x=some q→dI g1.I w q v:=fun hq=>by
  obtain ⟨k1,k2⟩:=UX hr hi h hq;rename_i q'
  cases q' <;> first | (simp [PV.one] at k2;done) | exact k1 | (simp only [RC] at k1;done)
 unfold dpV at hq;split at hq
 ·rename_i cs;split at hq
  ·rename_i ys hys
   cases hq
   simp only [VR] at h;obtain ⟨vs,rfl,h⟩:=h;simp only [dI];exact ⟨vs,rfl,Mk hr hi cs ys vs h hys⟩
  ·cases hq
 ·rename_i id ext i off;split at hq
  ·rename_i hb e;split at hq
   ·rename_i he;split at hq
    ·rename_i cs hrow;split at hq
     ·rename_i ys hys
      cases hq
      simp only [VR] at h;obtain ⟨hb',a,e',hle,hv,hcond⟩:=h;rw [e] at e';cases e';obtain ⟨b,o,hρ,hlt,ha⟩:=hcond he;obtain ⟨b',o',hk⟩:=hr.heap id hb e;have hk1:=hk.at_;rw [hρ] at hk1;cases hk1;obtain ⟨vs,k1,k2,k3⟩:=oA _ _ _ _ i _ hk.rows hrow;have hrc:RC g1.I w (.agg ys) vs:=by
       simp only [RC];exact Mk hr hi cs ys vs k2 hys
      simp only [dI];refine ⟨b,o+i*hb.esz,hb.esz,?_,hi b ⟨id,o,hρ⟩,hk.esz,by simp,?_⟩
      ·rw [hv,ha];simp
      ·simp only [dK];exact ⟨⟨vs,k1,hrc,k3⟩,trivial⟩
     ·cases hq
    ·cases hq
   ·cases hq
  ·cases hq
 ·exact base hq
theorem UY (hr:Rel E nt g1 F Hi tmps w) (hi:∀ b,RngR g1 b→g1.I b):∀ (l ys:List PV) (vs:List Value),bO g1 Hi w l vs→dpA Hi l=some ys→eF g1.I w ys vs
 | [],ys,vs,h,hq=>by simp only [dpA,bV] at hq;subst hq;simpa only [bO,eF] using h
 | x::r,ys,vs,h,hq=>by
  simp only [dpA] at hq;split at hq
  ·rename_i y hy;split at hq
   ·rename_i ys' hys
    cases hq
    simp only [bO] at h;obtain ⟨v,vr,rfl,h1,h2⟩:=h;simp only [eF];exact ⟨v,vr,rfl,cq hr hi h1 hy,UY hr hi r ys' vr h2 hys⟩
   ·cases hq
  ·cases hq
def Il (L:List Nat) (S:Nat→List PV→Option PV) (n:Nat) (xs:List PV) (H:Hp):Option (PV×Hp):=
 bif memN L n then (match dpA (gJ H) xs with
  | some az=>(match S n az with | some r=>if r.scalar then some (r,H) else none | none=>none)
  | none=>none) else none
theorem cr {L:List Nat} {S:Nat→List PV→Option PV} (hS:∀ n az r,S n az=some r→lD P E.glob n az r):ybr P E (Il L S):=by
 intro f args H r H' h nt g F tmps w vs hr _ hv;unfold Il at h
 cases hm:memN L f with
 | false=>rw [hm] at h;cases h
 | true=>
  rw [hm,cond_true] at h;split at h
  ·rename_i az ha;split at h
   ·rename_i r0 hs;split at h
    ·rename_i hsc
     cases h
     obtain ⟨g1,r1,v1,e1⟩:=hr.ice hv;refine (hS f az _ hs g1.I w vs r1.imm r1.glob (UY r1 e1.rng _ _ _ v1 ha)).mono fun v w' ⟨hb,hv⟩=>?_
     obtain ⟨g2,h1,h2,_⟩:=hr.grew hb;exact ⟨g2,h2,h1,Lq hsc hv⟩
    ·cases h
   ·cases h
  ·cases h
open Classical in
noncomputable def mQ (E:Env) (n:Nat) (az:List PV) (r:PV):Bool:=if Ans E n az r then true else false
theorem Ml {n:Nat} {az:List PV} {r:PV}:mQ E n az r=true↔Ans E n az r:=by unfold mQ;split<;>simp_all
noncomputable def AH (E:Env) (L:List Nat) (FF:Nat→List PV→PV) (n:Nat) (xs:List PV) (H:Hp):Option (Bool×Bool×(PV×Hp)×(PV×Hp)):=
 bif memN L n then (match dpA (gJ H) xs with
  | some az=>some (mQ E n az (FF n az)&&(FF n az).scalar,true,(FF n az,H),(.nils,[]))
  | none=>none) else none
open Classical in
noncomputable def gY (E:Env) (n:Nat) (az:List PV):Option PV:=if h:∃ r,Ans E n az r then some (Classical.choose h) else none
theorem Mm {n:Nat} {az:List PV} {r:PV} (h:Ans E n az r):gY E n az=some r:=by unfold gY;rw [dif_pos ⟨r,h⟩];exact Sl some (Ans.unique (Classical.choose_spec (p:=fun r=>Ans E n az r) ⟨r,h⟩) h)
theorem UZ {n:Nat} {az:List PV} {r:PV} (h:gY E n az=some r):Ans E n az r:=by
 unfold gY at h;split at h
 ·rename_i hx;cases h;exact Classical.choose_spec hx
 ·cases h
noncomputable def Env.two (E:Env) (QL DL:List Nat) (FF:Nat→List PV→PV):Env:=
 { glob:=E.glob,sum:=fun n az=>bif memN QL n then gY E n az else none,fns:=E.fns,frz:=fun _=>false,qui:=memN QL,eff:=AH E DL FF }
theorem uF {n:Nat} {az:List PV} {r:PV} {QL DL:List Nat} {FF:Nat→List PV→PV} (hm:memN QL n=true) (h:Ans E n az r):Ans (E.two QL DL FF) n az r:=by
 refine ⟨0,fun k e m _ hl _=>?_⟩;have h2:=(qP hl).2.1;have e1:(E.two QL DL FF).sum n az=some r:=by
  show (bif memN QL n then gY E n az else none)=some r;rw [hm,cond_true,Mm h]
 simp only [ydk,h2,e1]
theorem ct (hE:EO P E) (hmo:P.follows .mixedOrders=true) {QL DL:List Nat} {FF:Nat→List PV→PV} (hQ:∀ n,memN QL n=true→E.qui n=true∧∀ az,E.sum n az=none) (hD:∀ n,memN DL n=true→E.qui n=true∧∀ az,E.sum n az=none):EO P (E.two QL DL FF) where
 sum:=by
  intro n az r h;have h:(bif memN QL n then gY E n az else none)=some r:=h
  cases hm:memN QL n with
  | false=>rw [hm] at h;cases h
  | true =>rw [hm,cond_true] at h;obtain ⟨h1,h2⟩:=hQ n hm;exact Ie hE hmo (h2 az) h1 (UZ h).solo
 fns:=hE.fns
 eff:=by
  intro y _;have hS:∀ n az r,(bif memN DL n then gY E n az else none)=some r→lD P E.glob n az r:=by
   intro n az r h
   cases hm:memN DL n with
   | false=>rw [hm] at h;cases h
   | true =>rw [hm,cond_true] at h;obtain ⟨h1,h2⟩:=hD n hm;exact Ie hE hmo (h2 az) h1 (UZ h).solo
  have hd:ybr P ((E.two QL DL FF).ats y) (Il DL fun n az=>bif memN DL n then gY E n az else none):=cr (E:=(E.two QL DL FF).ats y) hS;intro f args H r H' hc;refine hd f args H r H' ?_;have hc:qE (AH E DL FF f args H)=some (r,H'):=hc;unfold AH at hc;unfold Il
  cases hm:memN DL f with
  | false=>rw [hm] at hc;cases hc
  | true=>
   rw [hm,cond_true] at hc;rw [cond_true];split at hc
   ·rename_i az ha
    cases hb:(mQ E f az (FF f az)&&(FF f az).scalar) with
    | false=>rw [hb] at hc;cases hc
    | true=>
     rw [hb] at hc
     cases hc
     simp only [bQ] at hb;simp only [hm,cond_true,Mm (Ml.1 hb.1),hb.2,if_true]
   ·cases hc
 dn:=fun _ h=>by cases h
 top:=fun _ _=>rfl
 yl:=fun _ _ _ _ _ _ h=>by cases h
end
end Go.Pf
namespace Go.Pf.Vc
open Go Go.Pf
def Im:Nat:=25
def Io:Nat:=45
def Ip:Nat:=26
def Iq:Nat:=10
def Ir:Nat:=46
def Is:Nat:=27
def Fy:Nat:=71
def It:Nat:=92
def Fz:Nat:=73
def Iu:Nat:=69
def Iv:Nat:=70
def Iw:Nat:=72
def CD:Nat:=48
def Ix:Nat:=47
def Iy:Nat:=28
def CE:Nat:=16
def Iz:Nat:=49
def IA:Nat:=29
def IB:Nat:=11
def qX:Nat:=4
def IC:Nat:=13
def ID:Nat:=12
def IE:Nat:=15
def IF:Nat:=75
def IG:Nat:=76
def xT:Nat:=52
def II:Nat:=50
def xU:Nat:=66
def AI:Nat:=67
def FA:Nat:=83
def IJ:Nat:=82
def xV:Nat:=57
def IK:Nat:=108
def IL:Nat:=89
def CF:Nat:=84
def IM:Nat:=109
def IN:Nat:=91
def IP:Nat:=90
def xW:Nat:=65
def IQ:Nat:=93
def IR:Nat:=74
def CG:Nat:=53
def CH:Nat:=51
def jV:Nat:=34
def sN:Nat:=41
def mR:Nat:=30
def FC:Nat:=80
def FD:Nat:=79
def IS:Nat:=78
def xX:Nat:=94
def xY:Nat:=95
def IT:Nat:=107
def IU:Nat:=110
def FE:Nat:=97
def IV:Nat:=96
def CI:Nat:=68
def AJ:Nat:=77
def IW:Nat:=81
def FG:Nat:=58
def FH:Nat:=56
def FI:Nat:=55
def Va:Nat:=54
def iO:Nat:=31
def jF:Nat:=14
def xZ:Nat:=19
def jG:Nat:=32
def jH:Nat:=33
def FJ:Nat:=20
def FK:Nat:=61
def Mn:Nat:=85
def FL:Nat:=59
def yA:Nat:=60
def FM:Nat:=37
def CJ:Nat:=36
def Vb:Nat:=35
def Mo:Nat:=86
def Vd:Nat:=62
def Ve:Nat:=106
def Vf:Nat:=88
def cu:Nat:=98
def cv:Nat:=87
def FN:Nat:=63
def CL:Nat:=64
def CM:Nat:=38
def FO:Nat:=40
def CN:Nat:=39
def CO:Nat:=42
def CP:Nat:=43
def CQ:Nat:=44
def iE:Nat:=21
def kV:Nat:=6
def IX:Nat:=17
def FQ:Nat:=24
def jW:Nat:=9
def mS:Nat:=8
def IY:Nat:=18
def sO:Nat:=5
def Vg:Nat:=22
def AK:Nat:=23
def sP:Nat:=7
def AL:Nat:=3
abbrev zI:Sh:=.one (.i .i64)
abbrev zD:Sh:=.one .d
abbrev z2:Sh:=.agg [.i .i64,.i .i64]
abbrev z4:Sh:=.agg [.i .i64,.i .i64,.i .i64,.i .i64]
abbrev zK:Sh:=.agg [.i .i64,.d,.d]
abbrev zE:Sh:=.agg [.d,.d]
def cw (o:AO):Nat:=
 match o.dst with
 | some d=>d
 | none=>(match o.op with | .store _ (.t a) _=>a+100000 | _=>999999)
def anF:List (Sh×Nat×List Nat)→Nat→Option (Sh×Nat)
 | [],_=>none
 | (s,m,l)::r,k=>bif memN l k then some (s,m) else anF r k
def Mp (tb:List (Sh×Nat×List Nat)):Nat→List AO→List An
 | _,[]=>[]
 | i,o::r=>(match anF tb (cw o) with | some (s,m)=>⟨i,s,m⟩::Mp tb (i+1) r | none=>Mp tb (i+1) r)
def gA (tb:List (Sh×Nat×List Nat)) (lps:List (Nat×Nat)):Nat→AC→TC
 | _,.skip=>.skip
 | _,.ops l ps fg=>.ops l (Mp tb 0 l) ps fg
 | k,.seq a b=>.seq (gA tb lps k a) (gA tb lps k b)
 | k,.cond c a b=>.cond c (gA tb lps k a) (gA tb lps k b)
 | _,.block id b=>.block id (gA tb lps id b)
 | k,.loop b=>.loop ((lps.lookup k).getD 0) (gA tb lps k b)
 | k,.lG b=>.lG ((lps.lookup k).getD 0) (gA tb lps k b)
 | _,.exit id=>.exit id
 | _,.ret=>.ret
 | _,.bad=>.bad
 | _,.rangeF g ps az bd=>.cut (.rangeF g ps az bd)
 | _,.yret c pre d y args e fgt=>.cut (.yret c pre d y args e fgt)
theorem yB (tb:List (Sh×Nat×List Nat)) (lps:List (Nat×Nat)):∀ (c:AC) (k:Nat),dM (gA tb lps k c)=c
 | .skip,_=>rfl
 | .ops _ _ _,_=>rfl
 | .seq a b,k=>by simp only [gA,dM,yB tb lps a,yB tb lps b]
 | .cond _ a b,k=>by simp only [gA,dM,yB tb lps a,yB tb lps b]
 | .block _ b,k=>by simp only [gA,dM,yB tb lps b]
 | .loop b,k=>by simp only [gA,dM,yB tb lps b]
 | .lG b,k=>by simp only [gA,dM,yB tb lps b]
 | .exit _,_=>rfl
 | .ret,_=>rfl
 | .bad,_=>rfl
 | .rangeF ..,_=>rfl
 | .yret ..,_=>rfl
def Mq (tb:List (Sh×Nat×List Nat)) (lps:List (Nat×Nat)):Option AFn→TFn
 | some f=>⟨f.nparams,f.results,gA tb lps 999999 f.body⟩
 | none=>⟨0,[],.bad⟩
theorem cz {tb:List (Sh×Nat×List Nat)} {lps:List (Nat×Nat)} {o:Option AFn} (h:o.isSome=true):o=some (Mq tb lps o).fn:=by
 cases o with
 | none=>cases h
 | some f=>simp only [Mq,TFn.fn,yB]
def dB (t:TFn) (id:Nat):TC:=
 match (jU t.body).lookup id with
 | some (.loop _ b)=>b
 | some (.lG _ b)=>b
 | _=>.skip
def rg:Nat→Nat→List Nat
 | a,0=>[a]
 | a,n+1=>a::rg (a+1) n
def xp:List Nat→List Nat
 | a::b::r=>bif Nat.blt 5000 b then rg a (b-5000)++xp r else a::xp (b::r)
 | l=>l
def tl (tb:List (Sh×Nat×List Nat)) (lps:List (Nat×Nat)) (loc:List Nat) (fg:List (Nat×List Nat)) (f:Func):TFn:=Mq tb lps (Al Proofs.Tryz.prog loc (fun i=>xp ((fg.lookup i).getD [])) f)
theorem bC {tb:List (Sh×Nat×List Nat)} {lps:List (Nat×Nat)} {loc:List Nat} {fg:List (Nat×List Nat)} {f:Func} (h:(Al Proofs.Tryz.prog loc (fun i=>xp ((fg.lookup i).getD [])) f).isSome=true):Al Proofs.Tryz.prog loc (fun i=>xp ((fg.lookup i).getD [])) f=some (tl tb lps loc fg f).fn:=cz h
def Vh:TFn:=tl [] [] [] [(1,[0,3,5012]),(0,[2])] Proofs.Tryz.f25
def Vi:TFn:=tl [(zK,0,[4,9])] [] [1] [(1,[1,3,5009]),(0,[0,2])] Proofs.Tryz.f45
def Mr:TFn:=tl [(zK,0,[12,13])] [(0,4277600)] [] [(6,[0,3,7,15,16,17]),(3,[8,9,14]),(5,[0,3,14]),(4,[7,10,5003]),(2,[4,5,6]),(0,[2])] Proofs.Tryz.f26
def Ms:TC:=dB Mr 4277600
def Mt:TFn:=tl [((.agg [.d]),0,[8,14,23]),(zD,0,[16,17])] [(0,69508200)] [3] [(6,[0,3,5,10,19,5007]),(3,[11,12,18]),(5,[0,3,5,18]),(4,[10,13,5004]),(2,[6,5003]),(0,[1,4])] Proofs.Tryz.f10
def Mu:TC:=dB Mt 69508200
def Mv:TFn:=tl [(zK,0,[6,10,15,19,25,28,35,42,44,50,55,61,67,74,82,91]),(zI,0,[36,37,47,48,64,65,69,70,76,77,84,85,93,94])] [(0,94526800)] [1] [(14,[98]),(13,[98]),(12,[1,3,4,57,97]),(8,[58,59]),(11,[87,5009]),(10,[1,3,4,87]),(9,[57,60,5026]),(7,[53,5003]),(5,[52]),(4,[1,52]),(3,[13,5038]),(2,[1,13]),(1,[5,5007]),(0,[0,2])] Proofs.Tryz.f46
def Mw:TC:=dB Mv 94526800
def IZ:TFn:=tl [(zE,0,[6,11,16,21,27,34,41,47,53]),(zK,0,[29,30,36,37,49,51,54,56])] [(0,6981300),(2,6981301)] [1] [(15,[1,4,43]),(12,[44,45,57]),(14,[1,4,57]),(13,[43,46,5010]),(11,[39,5003]),(10,[3,23]),(7,[24,25,32]),(9,[1,3,32,5006]),(8,[23,26,5005]),(6,[19,5003]),(5,[18]),(4,[1,18]),(3,[14,5003]),(2,[1,14]),(1,[5,5008]),(0,[0,2])] Proofs.Tryz.f27
def Mx:TC:=dB IZ 6981300
def My:TC:=dB IZ 6981301
def Vj:TFn:=tl [] [] [] [(3,[0,4,10,11]),(2,[0,4,5005]),(1,[3]),(0,[2])] Proofs.Tryz.f71
def Mz:TFn:=tl [] [(0,16774900)] [] [(3,[0,1,6,11]),(2,[6,5004]),(1,[5]),(0,[4])] Proofs.Tryz.f92
def MA:TC:=dB Mz 16774900
def Vk:TFn:=tl [(z2,0,[4,8,13,18,23,26])] [] [1] [(3,[30]),(2,[30]),(1,[1,3,5026]),(0,[0,2])] Proofs.Tryz.f73
def Vl:TFn:=tl [] [] [2,3] [(3,[2,3,7,10,11]),(2,[2,3,7,8,9]),(1,[5,6]),(0,[0,1,4])] Proofs.Tryz.f69
def Vm:TFn:=tl [] [] [4] [(5,[5,7,9,10,11,35,5014]),(4,[6,26,5008]),(3,[8,20,5005]),(2,[1,16,5003]),(1,[0,12,5003])] Proofs.Tryz.f70
def Vn:TFn:=tl [((.agg [.i .u64,.i .u64]),0,[6,8,12,14,18,20])] [] [2,3] [(1,[2,3,5,5018]),(0,[0,1,4])] Proofs.Tryz.f72
def Vo:TFn:=tl [(z2,0,[8,11,15,18,21,25,28,32])] [] [2,3,5,6] [(6,[5,6,33,37,38,39]),(5,[5,6,33,5003]),(4,[2,31,32]),(3,[3,13,17,5013]),(2,[2,3,13,5003]),(1,[7,5005]),(0,[0,1,4])] Proofs.Tryz.f48
def Vp:TFn:=tl [(z4,0,[4,6,11,13])] [] [1] [(1,[1,3,5012]),(0,[0,2])] Proofs.Tryz.f47
def MB:TFn:=tl [(z4,0,[15,16,26,28,31,33])] [(0,754900)] [] [(8,[0,3,10]),(5,[11,12,37]),(7,[0,3,37]),(6,[10,13,5023]),(4,[7,8,9]),(3,[6]),(2,[0,6]),(1,[4,5]),(0,[2])] Proofs.Tryz.f28
def MC:TC:=dB MB 754900
def Vq:TFn:=tl [] [] [2] [(1,[0,3,4])] Proofs.Tryz.f16
def Vr:TFn:=tl [(z2,0,[10])] [] [3] [(1,[0,3,5,5014]),(0,[1,4])] Proofs.Tryz.f49
def MD:TFn:=tl [(z4,0,[15,17,24,26])] [(0,21172200)] [] [(6,[0,1,5,9]),(3,[10,11,29]),(5,[0,1,5,29]),(4,[9,12,5016]),(2,[6,7,8]),(0,[4])] Proofs.Tryz.f29
def ME:TC:=dB MD 21172200
def Ja:TFn:=tl [((.agg [.d]),0,[16,23,29,39,49]),(zD,0,[31,32,51,52]),(zK,0,[45,47])] [(0,19434100),(2,19434101)] [3] [(17,[0,3,8,41]),(14,[42,43,54]),(16,[0,3,8,54]),(15,[41,44,5009]),(13,[37,5003]),(12,[6,25]),(8,[7,26,27,35]),(11,[0,3,6,7,35,36]),(10,[34]),(9,[25,28,5005]),(7,[21,5003]),(6,[20]),(5,[0,3,20]),(4,[5,13,15,5004]),(3,[0,3,5,13,14]),(2,[12]),(1,[9,10,11]),(0,[1,4])] Proofs.Tryz.f11
def MF:TC:=dB Ja 19434100
def MG:TC:=dB Ja 19434101
def Vs:TFn:=tl [] [] [3] [(1,[0,3,5,5009]),(0,[1,4])] Proofs.Tryz.f4
def Vt:TFn:=tl [] [] [4] [(1,[0,1,5,5004])] Proofs.Tryz.f13
def MH:TFn:=tl [((.agg [.d]),0,[12,100020]),(z4,0,[15,16])] [(0,99620800)] [17,18,2,3] [(6,[0,3,4,8,21]),(4,[9,10]),(5,[8,11,5009]),(3,[5,6,7])] Proofs.Tryz.f12
def MI:TC:=dB MH 99620800
def Vu:TFn:=tl [] [] [1,2,4,5] [(1,[1,5006]),(0,[0])] Proofs.Tryz.f15
def MJ:TFn:=tl [(zI,0,[10,11,21,22])] [(0,10434000)] [] [(8,[0,3,4,15,24]),(6,[16,17]),(7,[15,18,5005]),(5,[12,13,14]),(3,[7,9,10,11]),(2,[7,8]),(1,[5,6]),(0,[2])] Proofs.Tryz.f75
def MK:TC:=dB MJ 10434000
def ML:TFn:=tl [(zI,0,[10,11,21,22])] [(0,64079100)] [] [(8,[0,3,4,15,24]),(6,[16,17]),(7,[15,18,5005]),(5,[12,13,14]),(3,[7,9,10,11]),(2,[7,8]),(1,[5,6]),(0,[2])] Proofs.Tryz.f76
def MM:TC:=dB ML 64079100
def MN:TFn:=tl [(zK,0,[6,9,16,24,32,39,45,54,59,67,72,78]),(zI,0,[33,34,42,43,56,57,62,63])] [(0,87419700)] [1] [(14,[81]),(13,[81]),(12,[1,49,50,51,66,5014]),(11,[64,65]),(10,[1,49,50,64]),(9,[4,53,5010]),(8,[51,52]),(6,[3,47,48]),(5,[1,3,47]),(4,[14,5032]),(3,[1,3,14]),(2,[8,5005]),(1,[5,6,7]),(0,[0,2])] Proofs.Tryz.f52
def MO:TC:=dB MN 87419700
def Jb:TFn:=tl [(zE,0,[9,14,19,23,36,45]),(zK,0,[27,28,40,41,43,46,48])] [(0,12157600),(2,12157601)] [1,4,7] [(18,[1,36,5003]),(17,[49,50]),(16,[1,36,37,38,49]),(15,[7,42,5006]),(14,[39,40,41]),(12,[23,5003,35]),(11,[5,32,34]),(10,[1,5,23,24,25,32,33]),(9,[31]),(8,[4,29,30]),(7,[26,27,28]),(5,[21,22]),(4,[1,21]),(3,[17,5003]),(2,[1,17]),(1,[8,5008]),(0,[0,2])] Proofs.Tryz.f50
def MQ:TC:=dB Jb 12157600
def MR:TC:=dB Jb 12157601
def Vv:TFn:=tl [] [] [] [(3,[0,4,8,9]),(2,[0,4,5003]),(1,[3]),(0,[2])] Proofs.Tryz.f66
def MS:TFn:=tl [] [(0,32725300)] [] [(3,[0,1,6,11]),(2,[6,5004]),(1,[5]),(0,[4])] Proofs.Tryz.f67
def MT:TC:=dB MS 32725300
def Vw:TFn:=tl [(z2,0,[4,8,11,18,21])] [] [1] [(3,[25]),(2,[25]),(1,[1,3,5021]),(0,[0,2])] Proofs.Tryz.f83
def MU:TFn:=tl [(zI,0,[10,11])] [(0,38508400)] [] [(8,[3,6,5003,17]),(7,[5,14,16]),(6,[3,5,5003,14,15]),(5,[12,13]),(4,[9,10,11]),(2,[0]),(0,[2])] Proofs.Tryz.f82
def MV:TC:=dB MU 38508400
def Vx:TFn:=tl [] [] [9,2,3] [(1,[2,3,5,5005]),(0,[0,1,4])] Proofs.Tryz.f57
def Vy:TFn:=tl [] [] [] [(1,[0,3,4,5]),(0,[2])] Proofs.Tryz.f108
def Vz:TFn:=tl [] [] [] [(13,[19]),(12,[19]),(11,[0,1,16,17,18]),(10,[0,1,16]),(9,[13,14,15]),(8,[0,1,13]),(7,[6,11]),(6,[12]),(5,[12]),(4,[0,1,6,11]),(3,[5]),(2,[9,10]),(1,[7,8]),(0,[4])] Proofs.Tryz.f89
def VA:TFn:=tl [] [] [] [(11,[0,1,48,49,50]),(10,[7,9,12,13,40,5007]),(9,[6,35,5004]),(8,[11,33,34]),(7,[31,32]),(6,[8,10,25,5005]),(5,[22,23,24]),(4,[20,21]),(3,[18,19]),(2,[16,17]),(1,[14,15]),(0,[4,5])] Proofs.Tryz.f84
def VB:TFn:=tl [] [] [] [(1,[0,3,4,5]),(0,[2])] Proofs.Tryz.f109
def VD:TFn:=tl [] [] [] [(13,[19]),(12,[19]),(11,[0,1,16,17,18]),(10,[0,1,16]),(9,[13,14,15]),(8,[0,1,13]),(7,[6,11]),(6,[12]),(5,[12]),(4,[0,1,6,11]),(3,[5]),(2,[9,10]),(1,[7,8]),(0,[4])] Proofs.Tryz.f91
def MW:TFn:=tl [(zI,0,[10,11])] [(0,53260600)] [] [(8,[3,6,5003,17]),(7,[5,14,16]),(6,[3,5,5003,14,15]),(5,[12,13]),(4,[9,10,11]),(2,[0]),(0,[2])] Proofs.Tryz.f90
def MX:TC:=dB MW 53260600
def VE:TFn:=tl [(z2,0,[19,22,26,28,32,35,42,45,59])] [] [56,2,3] [(11,[11,60,63]),(10,[60,61,62]),(9,[2,58,59]),(8,[7,5003,50,5007]),(7,[3,40,5009]),(6,[24,30,5009]),(5,[2,3,24,5005]),(4,[6,16,18,5005]),(3,[2,3,6,16,17]),(2,[15]),(1,[12,13,14]),(0,[0,1,4,5])] Proofs.Tryz.f65
def VF:TFn:=tl [(z4,0,[7,9])] [] [1] [(2,[3,4,13,5005]),(1,[1,5,5007]),(0,[0,2])] Proofs.Tryz.f93
def MY:TFn:=tl [(z4,0,[12,13])] [(0,56157900)] [4] [(9,[8,5003]),(8,[16,17]),(7,[8,9,10,16]),(6,[4,14,15]),(5,[11,12,13]),(3,[0,7]),(2,[0,7]),(1,[5,6]),(0,[2])] Proofs.Tryz.f74
def MZ:TC:=dB MY 56157900
def VG:TFn:=tl [] [] [2,3] [(2,[5,13]),(1,[2,3,6,5006]),(0,[0,1,4])] Proofs.Tryz.f53
def Na:TFn:=tl [(z4,0,[19,21,24,26])] [(0,17365500)] [] [(9,[0,4,13]),(6,[14,15,28]),(8,[0,4,28]),(7,[13,16,5011]),(5,[10,11,12]),(4,[3,8]),(3,[0,3,8,9]),(2,[7]),(1,[5,6]),(0,[2])] Proofs.Tryz.f51
def Nb:TC:=dB Na 17365500
def VH:TFn:=tl [] [] [2,1000002] [(1,[0,3,4])] Proofs.Tryz.f34
def VI:TFn:=tl [] [] [2,3,1000002,1000003] [(2,[5,13,14]),(1,[2,3,6,5006]),(0,[0,1,4])] Proofs.Tryz.f41
def Jc:TFn:=tl [((.agg [.d]),0,[19,25,38]),(zD,0,[29,30,42,43]),(z4,0,[50,53,64,66]),(zK,0,[57,59])] [(0,8206000),(2,8206001)] [3,1000003] [(20,[0,38,5003]),(19,[69,70]),(18,[0,38,39,40,69]),(17,[10,11,46,5022]),(16,[44,45]),(15,[41,42,43]),(13,[3,25,5003,37]),(12,[8,34,36]),(11,[0,3,8,25,26,27,34,35]),(10,[33]),(9,[7,31,32]),(8,[28,29,30]),(6,[23,24]),(5,[0,3,23]),(4,[5,16,18,5004]),(3,[0,3,5,16,17]),(2,[15]),(1,[12,13,14]),(0,[1,4])] Proofs.Tryz.f30
def Nc:TC:=dB Jc 8206000
def Nd:TC:=dB Jc 8206001
def VJ:TFn:=tl [] [] [2] [(1,[0,3,4])] Proofs.Tryz.f80
def VK:TFn:=tl [] [] [2,3] [(2,[5,13,14]),(1,[2,3,6,5006]),(0,[0,1,4])] Proofs.Tryz.f79
def VL:TFn:=tl [(z2,0,[10]),(zK,0,[15])] [] [2,3] [(1,[2,3,5,5015]),(0,[0,1,4])] Proofs.Tryz.f78
def VM:TFn:=tl [] [] [] [(10,[0,14,19,5005]),(9,[17,18]),(8,[14,15,16]),(7,[8,13]),(6,[11,12]),(5,[8,9,10]),(4,[4,7]),(2,[2,4,5,6]),(1,[3])] Proofs.Tryz.f107
def VN:TFn:=tl [] [] [] [(1,[0,3,4,5]),(0,[2])] Proofs.Tryz.f110
def Jd:TFn:=tl [] [(0,60530100),(2,60530101)] [] [(28,[2,8,9,10,14,5004,113,120,5014]),(27,[119]),(26,[116,117,118]),(25,[113,114,115]),(24,[102,5010,120]),(23,[97,5004]),(22,[94,95,96]),(21,[11,13,16,78,85,5008]),(20,[84]),(19,[81,82,83]),(18,[78,79,80]),(17,[67,5010,85]),(16,[62,5004]),(15,[59,60,61]),(14,[12,57,58]),(13,[55,56]),(12,[1,52,53,54]),(11,[0,44,5007]),(10,[42,43]),(9,[40,41]),(8,[37,38,39]),(7,[27,34,35,36]),(6,[0,1,2,27,5006]),(5,[24,26]),(4,[24,25]),(3,[20,22,23]),(2,[20,21]),(1,[19]),(0,[6,7])] Proofs.Tryz.f97
def Nf:TC:=dB Jd 60530100
def Ng:TC:=dB Jd 60530101
def VO:TFn:=tl [] [] [] [(2,[8,18]),(1,[0,1,2,7,9,5008]),(0,[6])] Proofs.Tryz.f96
def VQ:TFn:=tl [] [] [6] [(5,[1,2,13,20,5004]),(4,[1,2,13,5006]),(3,[0,11]),(2,[0,1,2,11,12]),(1,[8,9,10]),(0,[7])] Proofs.Tryz.f68
def VS:TFn:=tl [(z2,0,[29,32,37,40,49,52,60,63,66,140,145])] [] [2,3,4] [(26,[12,17,20,153,155,5005]),(25,[12,17,20,153,154]),(24,[19,152]),(23,[2,3,7,16,138,5013]),(22,[13,14,18,129,131,5006]),(21,[2,3,7,12,13,14,16,129,130]),(20,[127,128]),(19,[119,121,5005]),(18,[2,3,7,12,13,14,119,120]),(17,[114,5004]),(16,[8,10,15,107,5006]),(15,[9,11,94,101,5005]),(14,[99,100]),(13,[94,5004]),(12,[68,82,5011]),(11,[8,10,15,75,5006]),(10,[9,11,68,5006]),(9,[62,5005]),(8,[13,14,15]),(7,[59,60,61]),(6,[47,5011]),(5,[35,5011]),(4,[6,25,28,5006]),(3,[2,3,6,25,26,27]),(2,[24]),(1,[21,22,23]),(0,[0,1,5])] Proofs.Tryz.f77
def VT:TFn:=tl [(z2,0,[15,100017])] [] [2,3,4] [(5,[2,3,18,5004]),(4,[6,11,14,5003]),(3,[2,3,6,11,12,13]),(2,[10]),(1,[7,8,9]),(0,[0,1,5])] Proofs.Tryz.f81
def VU:TFn:=tl [(z2,0,[25,28,31,34,71,74])] [] [2,3,4] [(10,[2,3,14,16,65,67,5015]),(9,[2,3,14,16,65,66]),(8,[13,15,62,63,64]),(7,[8,10,11,12,52,5009]),(6,[7,9,42,5009]),(5,[36,5005]),(4,[6,21,24,5011]),(3,[2,3,6,21,22,23]),(2,[20]),(1,[17,18,19]),(0,[0,1,5])] Proofs.Tryz.f58
def Nh:TFn:=tl [(zK,0,[42,50]),(zI,0,[47,48,53,54])] [(0,85339800)] [3,4,5,6,9,10,13,14,16] [(28,[3,5,9,10,42,5003,105]),(27,[13,70,104]),(26,[13,15,100,103]),(25,[3,5,9,10,13,15,42,43,44,100,101,102]),(24,[99]),(23,[16,90,93,5005]),(22,[3,5,9,10,13,15,16,42,43,44,90,91,92]),(21,[89]),(20,[12,14,79,82,5006]),(19,[3,5,9,10,12,5003,42,43,44,79,80,81]),(18,[78]),(17,[67,72,5005]),(16,[13,70,71]),(15,[12,67,68,69]),(14,[58,60,5006]),(13,[58,59]),(12,[56,57]),(11,[11,49,5006]),(10,[45,5003]),(8,[41]),(7,[4,40]),(6,[37,39]),(5,[3,4,5,37,38]),(4,[8,20,23,5013]),(3,[3,4,5,8,20,21,22]),(2,[19]),(1,[17,18]),(0,[0,1,2,7])] Proofs.Tryz.f56
def Ni:TC:=dB Nh 85339800
def Nj:TFn:=tl [(z4,0,[7,9])] [] [2,3] [(1,[1,2,5,5007]),(0,[0,4])] Proofs.Tryz.f55
def Nk:TFn:=tl [(z4,0,[16,17])] [(0,87165700)] [4,6,8,9] [(12,[1,6,12,5003,39]),(11,[10,35,38]),(10,[1,6,10,12,13,14,35,36,37]),(9,[34]),(8,[9,25,28,5005]),(7,[1,6,9,10,12,13,14,25,26,27]),(6,[24]),(5,[8,18,5005]),(4,[15,16,17]),(2,[0]),(1,[11]),(0,[5])] Proofs.Tryz.f54
def Nl:TC:=dB Nk 87165700
def VV:TFn:=tl [(zK,0,[9,40]),(z4,0,[27,30,36,38])] [] [4] [(10,[1,2,45,47,5004]),(9,[1,2,45,46]),(8,[8,23,5021]),(7,[7,18,21,22]),(6,[1,2,7,18,19,20]),(5,[17]),(4,[6,12,15,16]),(3,[1,2,6,12,13,14]),(2,[11]),(1,[9,10]),(0,[0,5])] Proofs.Tryz.f31
def uG:TFn:=tl [] [(0,14283601),(2,14283600)] [53,3,9,12,1000003,1000022,1000009,1000012] [(17,[3,7,23,5003,58]),(16,[8,9,31,5003,57]),(15,[56]),(14,[12,13,44,46,5009]),(13,[3,7,8,9,12,13,23,24,25,31,32,33,44,45]),(12,[43]),(11,[11,37,5005]),(10,[34,35,36]),(8,[30]),(7,[26,5003]),(5,[0]),(4,[6,18,20,21,22]),(3,[0,3,6,18,19]),(2,[17]),(1,[14,15,16]),(0,[1,4,5])] Proofs.Tryz.f14
def sQ:TC:=dB uG 14283600
def CR:TC:=dB uG 14283601
def yC:TFn:=tl [((.agg [.d]),0,[19])] [] [3,1000003,1000022] [(4,[0,3,6,7,15,17,5005]),(3,[0,3,6,7,15,16]),(2,[14]),(1,[8,5005]),(0,[1,4,5])] Proofs.Tryz.f19
def Nm:TFn:=tl [(zK,0,[14,24,30]),(zI,0,[19,20,27,28,32,33])] [(0,45203600)] [1] [(10,[1,5,14,5003,38]),(9,[37]),(8,[6,7,21,5015]),(7,[17,5003]),(5,[13]),(4,[4,11]),(3,[1,4,11,12]),(2,[10]),(1,[8,9]),(0,[0,2,3])] Proofs.Tryz.f32
def Nn:TC:=dB Nm 45203600
def VW:TFn:=tl [(z2,0,[16,21,25,28,36,38])] [] [2,3,4] [(8,[2,3,19,34,5008]),(7,[2,3,19,23,5010]),(6,[14,20,21,22]),(5,[2,3,14,18]),(4,[6,11,15,16,17]),(3,[2,3,6,11,12,13]),(2,[10]),(1,[7,8,9]),(0,[0,1,5])] Proofs.Tryz.f33
def AM:TFn:=tl [(zK,0,[22,23]),(zD,0,[33,34]),(z2,0,[36,37])] [(0,20643600)] [52,6] [(10,[0,12,13,14]),(9,[56]),(8,[6,7,44,46,5009]),(7,[0,6,7,12,13,44,45]),(6,[43]),(5,[3,4,27,5015]),(4,[5,16,5010]),(3,[14,15]),(1,[8,5003]),(0,[2])] Proofs.Tryz.f20
def pP:TC:=dB AM 20643600
def No:TFn:=tl [(z4,0,[7,11])] [] [2,1000002] [(1,[1,2,4,5011]),(0,[0,3])] Proofs.Tryz.f61
def Je:TFn:=tl [(z4,0,[14,15])] [(0,68674300)] [] [(7,[0,1,7,8,9]),(6,[5,16,18]),(5,[0,1,5,7,8,16,17]),(4,[11,5004]),(3,[9,10]),(1,[6]),(0,[4])] Proofs.Tryz.f85
def CS:TC:=dB Je 68674300
def FR:TFn:=tl [] [] [] [(1,[0,1,5,5003]),(0,[4])] Proofs.Tryz.f59
def VX:TFn:=tl [] [] [1000002] [(1,[1,2,4,5,6]),(0,[0,3])] Proofs.Tryz.f60
def VY:TFn:=tl [] [] [1000003] [(1,[0,3,5,6,7]),(0,[1,4])] Proofs.Tryz.f37
def Np:TFn:=tl [((.agg [.d,.d,.d,.d]),0,[13,20]),(zD,0,[15,16,22,23])] [] [] [(1,[0,1,2,6,5019]),(0,[5])] Proofs.Tryz.f36
def Jf:TFn:=tl [] [(0,97930201),(2,97930200)] [] [(11,[0,1,13,14,15]),(10,[7,21,22,23,32]),(9,[8,28,31]),(8,[0,1,7,8,13,14,21,22,28,29,30]),(7,[25,26,27]),(6,[23,24]),(4,[17,5003]),(3,[15,16]),(1,[9,5003]),(0,[4,5,6])] Proofs.Tryz.f35
def Jg:TC:=dB Jf 97930200
def Nq:TC:=dB Jf 97930201
def Nr:TFn:=tl [] [] [] [(6,[0,1,16,26]),(5,[1,16,5009]),(4,[15]),(3,[6,8,5006]),(2,[6,7]),(1,[5]),(0,[4])] Proofs.Tryz.f86
def Jh:TFn:=tl [(zD,0,[13,14,29,30]),(.raw,1,[33])] [(0,14451100),(2,14451101)] [] [(15,[6,25,5003,35]),(14,[34]),(13,[8,31,32,33]),(12,[28,29,30]),(10,[0]),(9,[3,9,5003,23,24]),(8,[20,22]),(7,[20,21]),(6,[19]),(5,[5,15,5003]),(4,[12,13,14]),(0,[2])] Proofs.Tryz.f62
def Ns:TC:=dB Jh 14451100
def Nt:TC:=dB Jh 14451101
def dc:TFn:=tl [] [] [] [(7,[0,8,13,5005]),(6,[11,12]),(5,[8,9,10]),(4,[4,7]),(2,[2,4,5,6]),(1,[3])] Proofs.Tryz.f106
def dd:TFn:=tl [] [] [] [(2,[0,6,7]),(1,[0,3,4,5]),(0,[2])] Proofs.Tryz.f88
def Nu:TFn:=tl [(z4,0,[25,26,30,31,45,46,49,50,51,52,100051,100052])] [(0,53122801),(2,53122800)] [] [(2,[9,15,16,34]),(5,[35,36]),(6,[34,37,5015]),(4,[18,5015]),(3,[14,17]),(1,[12,13]),(0,[10,11])] Proofs.Tryz.f98
def yMb:TC:=dB Nu 53122800
def yMc:TC:=dB Nu 53122801
def VZ:TFn:=tl [(z4,0,[88,89,92,93])] [(0,92709400)] [] [(30,[16,147]),(29,[2,140,5006]),(28,[18,19,20,125,137,138,139]),(27,[16,135,136]),(26,[1,129,5005]),(25,[18,19,20,125,5003]),(24,[123,124]),(23,[12,121,122]),(22,[115,5005]),(21,[17,114]),(20,[10,11,13,97,105,5008]),(19,[15,104]),(18,[1,12,13,97,5006]),(17,[75,80,5016]),(16,[75,5004]),(15,[14,56,68,5006]),(13,[62,5005]),(12,[14,56,5005]),(11,[55]),(10,[39,47,5007]),(9,[45,46]),(8,[39,5005]),(7,[32,38]),(6,[0,5004,10,11,12,32,5005]),(5,[25,31]),(4,[0,5004,10,11,12,25,5005]),(3,[24]),(2,[21,22,23])] Proofs.Tryz.f87
def yMd:TC:=dB VZ 92709400
def de:TFn:=tl [] [] [] [(1,[0,1,4,7,5006]),(0,[5,6])] Proofs.Tryz.f63
def Wa:TFn:=tl [(z4,0,[9,11])] [] [2,3] [(2,[5,15]),(1,[2,3,6,5008]),(0,[0,1,4])] Proofs.Tryz.f64
def Nv:TFn:=tl [(z4,0,[19,20,23,27,30]),(zK,0,[37,39])] [(0,93107500)] [4,6] [(12,[0,4,15,5003,32,5009]),(11,[6,28,31]),(10,[6,28,29,30]),(9,[24,5003]),(8,[0,4,6,15,16,17,24]),(7,[21,22,23]),(6,[18,19,20]),(4,[3]),(3,[14]),(2,[12,13]),(1,[7,5004]),(0,[2])] Proofs.Tryz.f38
def Nw:TC:=dB Nv 93107500
def Wb:TFn:=tl [] [] [4] [(5,[0,1,6,7,8,19,5013]),(4,[16,17,18]),(3,[10,12,5003]),(2,[0,1,10,11]),(1,[9]),(0,[5])] Proofs.Tryz.f40
def Ny:TFn:=tl [((.agg [.d,.d,.d,.d]),0,[14,26,38]),(zK,0,[16,17]),(zD,0,[40,41]),(z2,0,[43,44])] [] [8] [(3,[0,1,2,8,31,5016]),(2,[6,9,21,5009]),(1,[7,10,5010]),(0,[5])] Proofs.Tryz.f39
def Nz:TFn:=tl [((.agg [.d,.d,.d,.d]),0,[9,19]),(zD,0,[11,12,21,22]),(z2,0,[14,15,24,25])] [] [] [(1,[0,1,2,6,5020]),(0,[5])] Proofs.Tryz.f42
def NA:TFn:=tl [((.agg [.d,.d,.d,.d]),0,[12,19]),(z2,0,[14,15,20,21])] [] [] [(1,[0,1,2,6,5017]),(0,[5])] Proofs.Tryz.f43
def NB:TFn:=tl [((.agg [.d,.d,.d,.d]),0,[13]),(zD,0,[15,16])] [] [] [(1,[0,1,2,6,5013]),(0,[5])] Proofs.Tryz.f44
def Wc:TFn:=tl [] [] [] [(13,[2,45,53,5005]),(12,[2,45,47,5005]),(11,[10,37,46]),(10,[2,10,37,39,5005]),(9,[29,38]),(8,[2,10,29,31,5005]),(7,[11,30]),(6,[7,8,9,25,5003]),(5,[7,8,9,25]),(4,[2,20,5004]),(3,[10,11,13,5006]),(2,[12]),(1,[1]),(0,[0,4,5,6])] Proofs.Tryz.f21
def CT:TFn:=tl [((.agg [.i .u8,.d]),0,[46,100050])] [(0,65264200)] [3,4,8,1000003,1000004,1000008] [(14,[6,8,32,33,52]),(13,[9,44,51]),(12,[9,44,5006]),(11,[12,43]),(10,[10,11,35,5007]),(9,[33,34]),(6,[7,24,27,5004]),(5,[6,7,24,25,26]),(4,[20,23]),(3,[20,21,22]),(2,[19]),(1,[0,3,13,5005]),(0,[1,5])] Proofs.Tryz.f6
def CU:TC:=dB CT 65264200
def Ji:TFn:=tl [(zD,0,[20,21,25,26,32,33,40,41,47,48]),(z2,0,[43,44,50,51])] [(0,72981701),(2,72981700)] [] [(13,[0,1,5,15]),(5,[6,16,17,35]),(10,[36,37,52]),(12,[0,1,5,6,52]),(11,[35,38,5013]),(9,[29,5005]),(8,[28]),(7,[0,1,5,28]),(6,[15,18,5009]),(4,[12,13,14]),(3,[11]),(2,[0,1,11]),(1,[7,5003]),(0,[4])] Proofs.Tryz.f17
def Jj:TC:=dB Ji 72981700
def NC:TC:=dB Ji 72981701
def Wd:TFn:=tl [] [] [4,1000004] [(19,[50,51,52]),(18,[2,9,12,41,43,5006]),(17,[2,12,41,42]),(16,[37,40]),(15,[37,38,39]),(14,[11,33,5003]),(13,[0,4,19,22,27,5005]),(12,[0,2,4,11,19,22]),(11,[19,20]),(10,[19,26]),(9,[25]),(8,[24]),(7,[20,23]),(6,[21]),(4,[10,17]),(3,[0,2,4,10,17,18]),(2,[16]),(1,[13,14,15]),(0,[1,6,5003])] Proofs.Tryz.f24
def We:TFn:=tl [] [] [4,1000004] [(4,[24,5003]),(3,[24]),(2,[9,19,5004]),(1,[0,2,4,10,5008]),(0,[1,6,7,8])] Proofs.Tryz.f9
def Wf:TFn:=tl [] [] [4,1000004] [(2,[10,11,21,5006]),(1,[0,2,4,8,9,12,5008]),(0,[1,6,7])] Proofs.Tryz.f8
def Wg:TFn:=tl [] [] [6] [(3,[3,4,11,5004,31,5019]),(2,[0,2,6,24,5006]),(1,[16,5007]),(0,[1,10])] Proofs.Tryz.f18
def Wh:TFn:=tl [((.agg [.i .u8,.d]),0,[58,67])] [] [13,17,45,48,49,1,2,5,7,9,10] [(6,[1,3,5007,39,5045]),(5,[37,38]),(4,[2,31,5005]),(3,[25,5005]),(2,[19,5005]),(1,[11,5007]),(0,[0])] Proofs.Tryz.f5
def ND:TFn:=tl [(zD,0,[20,21,24,25])] [(0,8009400)] [] [(10,[1,2,15,5003]),(9,[30,31]),(8,[1,2,15,16,17,30]),(7,[8,9,26,5003]),(6,[7,22,5003]),(5,[18,5003]),(3,[0,14]),(2,[0,1,2,14]),(1,[10,5003]),(0,[6])] Proofs.Tryz.f22
def NE:TC:=dB ND 8009400
def NF:TFn:=tl [(z2,0,[18,19,22,23])] [(0,11234800)] [] [(9,[0,1,12,13,14]),(8,[24,25]),(7,[0,1,12,13,24]),(6,[5,16,5007]),(5,[14,15]),(3,[10,11]),(2,[0,1,10]),(1,[6,5003]),(0,[4])] Proofs.Tryz.f23
def NG:TC:=dB NF 11234800
def NH:TFn:=tl [((.agg [.i .u8,.d]),0,[25,33,38,50])] [(0,47320500)] [4,5,1000004,1000005] [(18,[5,8,46,47]),(17,[11,54,63,64]),(16,[5,8,46,63]),(15,[14]),(14,[11,12,13,54,5008]),(13,[49,5004]),(12,[47,48]),(10,[10,40,44]),(9,[5,8,10,44,45]),(8,[43]),(7,[40,41,42]),(6,[36,5003]),(5,[5,8,36]),(4,[9,22,24,5011]),(3,[5,8,9,22,23]),(2,[21]),(1,[0,4,15,5005]),(0,[1,2,6,7])] Proofs.Tryz.f7
def NI:TC:=dB NH 47320500
def CV:TFn:=tl [((.agg [.i .u8,.d]),0,[46,53,71,104,139,149,160]),(zD,0,[141,142,151,152,162,163]),(z2,0,[154,155,166,100166])] [(0,89800100)] [7,11,13,15] [(24,[25,26,174,5008]),(23,[0,7,13,167,5006]),(22,[3,4,11,157,159,5007]),(21,[0,3,4,7,11,13,157,158]),(20,[18,79,124,5032]),(14,[80,81,123]),(19,[0,3,4,7,11,13,18,123]),(18,[19,20,21,24,99,5023]),(17,[22,23,91,5007]),(16,[84,5006]),(15,[79,82,83]),(13,[78]),(12,[77]),(11,[0,3,4,7,11,13,77]),(10,[2,16,17,62,5014]),(9,[15,55,5006]),(8,[50,5004]),(7,[0,2,3,4,7,11,13,50]),(6,[14,39,45,5004]),(5,[0,2,3,4,7,11,13,14,39,5005]),(4,[38]),(3,[30,32,5005]),(2,[0,2,3,4,7,11,30,31]),(1,[27,28,29]),(0,[1,5,12])] Proofs.Tryz.f3
def CW:TC:=dB CV 89800100
def tab:List (Nat×AFn):=[(Im,Vh.fn),(Io,Vi.fn),(Ip,Mr.fn),(Iq,Mt.fn),(Ir,Mv.fn),(Is,IZ.fn),(Fy,Vj.fn),(It,Mz.fn),(Fz,Vk.fn),(Iu,Vl.fn),(Iv,Vm.fn),(Iw,Vn.fn),(CD,Vo.fn),(Ix,Vp.fn),(Iy,MB.fn),(CE,Vq.fn),(Iz,Vr.fn),(IA,MD.fn),(IB,Ja.fn),(qX,Vs.fn),(IC,Vt.fn),(ID,MH.fn),(IE,Vu.fn),(IF,MJ.fn),(IG,ML.fn),(xT,MN.fn),(II,Jb.fn),(xU,Vv.fn),(AI,MS.fn),(FA,Vw.fn),(IJ,MU.fn),(xV,Vx.fn),(IK,Vy.fn),(IL,Vz.fn),(CF,VA.fn),(IM,VB.fn),(IN,VD.fn),(IP,MW.fn),(xW,VE.fn),(IQ,VF.fn),(IR,MY.fn),(CG,VG.fn),(CH,Na.fn),(jV,VH.fn),(sN,VI.fn),(mR,Jc.fn),(FC,VJ.fn),(FD,VK.fn),(IS,VL.fn),(IT,VM.fn),(IU,VN.fn),(FE,Jd.fn),(IV,VO.fn),(CI,VQ.fn),(AJ,VS.fn),(IW,VT.fn),(FG,VU.fn),(FH,Nh.fn),(FI,Nj.fn),(Va,Nk.fn),(iO,VV.fn),(jF,uG.fn),(xZ,yC.fn),(jG,Nm.fn),(jH,VW.fn),(FJ,AM.fn),(FK,No.fn),(Mn,Je.fn),(FL,FR.fn),(yA,VX.fn),(FM,VY.fn),(CJ,Np.fn),(Vb,Jf.fn),(Mo,Nr.fn),(Vd,Jh.fn),(Ve,dc.fn),(Vf,dd.fn),(cu,Nu.fn),(cv,VZ.fn),(FN,de.fn),(CL,Wa.fn),(CM,Nv.fn),(FO,Wb.fn),(CN,Ny.fn),(CO,Nz.fn),(CP,NA.fn),(CQ,NB.fn),(iE,Wc.fn),(kV,CT.fn),(IX,Ji.fn),(FQ,Wd.fn),(jW,We.fn),(mS,Wf.fn),(IY,Wg.fn),(sO,Wh.fn),(Vg,ND.fn),(AK,NF.fn),(sP,NH.fn),(AL,CV.fn)]
def AN:List Nat:=[Im,Io,Ip,Iq,Ir,Is,Fy,It,Fz,Iu,Iv,Iw,CD,Ix,Iy,CE,Iz,IA,IB,qX,IC,ID,IE,IF,IG,xT,II,xU,AI,FA,IJ,xV,IK,IL,CF,IM,IN,IP,xW,IQ,IR,CG,CH,jV,sN,mR,FC,FD,IS,xX,xY,IT,IU,FE,IV,CI,AJ,IW,FG,FH,iO,jF,jG,jH,yA,FM,Ve,Vf,CL,CM,FO,iE,kV,IX,FQ,jW,mS,IY,sO,AK,sP,AL,(jF+1000000),(yA+3000000),(iE+3000000),(CM+3000000)]
def uH:mP:=[]
def FS:List (Nat×PV):=[]
def E (ef:Es):Env:=(sM xX xY tab AN uH FS ef)
def df:Env:=qT xX xY tab AN uH FS
abbrev lF:Srts:=nM FN CL
def Wj:List Nat:=[FN]
abbrev EG (e:Es):Prop:=EffG E Wj e
theorem fI:EG []:=⟨fun _ _ _ _ h=>(by cases h),fun _ _ _ _=>rfl⟩
def aT:Es:=[(FN,Ft lF.s lF.srt)]
theorem bT {e:Es} (he:EG e) {P:EP} {S:SE} {d n:Nat} {t:TFn} {s:Sg} {w:s.W} (hq:bR S d t s w) (hS:SEOk P S) (hR:bH P S.E (jD S d) t.body) (hl:LpOk P S.E S.lp [] t.body) (hE:S.E=E e:=by rfl) (hs:CA xX xY uH n=false:=by kernel_rfl) (hm:memN Wj n=false:=by kernel_rfl) (hf:S.E.fns n=some t.fn:=by kernel_rfl) (hu:S.E.qui n=true:=by kernel_rfl) (hn:S.E.nl n=false:=by kernel_rfl):∀ az K,s.pw w az K→∃ r,K r∧gW P n az r:=cp hq hS hR hl (fun _=>by rw [hE];exact dW hs _) (by rw [hE];exact he.num _ hm) hf hu hn
theorem bB:EG aT:=⟨cb (by kernel_rfl),fun n h xs H=>UU (l:=aT) h⟩
abbrev Wk:Type:=Int→Int→Int→(Int→Int→Prop)→Prop
abbrev Wl:Type:=Int→Int→Int→(Int→Int→Prop)→Prop
theorem dg (e:Es) (_:EG e):bP (E e) yq7 xX:=ci
theorem dh (e:Es) (_:EG e):bP (E e) yq9 xY:=cj (by kernel_rfl)
set_option maxRecDepth 100000
abbrev gB:Type:=Int→(Int→Prop)→Prop
def NJ (b:Int) (K:Int→Prop):Prop:=
 (aB (decide (b<0)) (K (u64.wrap (0-(u64.wrap b)))) (K (u64.wrap b)))
def yD:gB:=NJ
def cF:fH:=vI i64
def Jk:jE:=lC cF lN
def qY:Sg:=⟨Jk,Int→Prop,fun K=>(fun r0=>K (.int .u64 r0))⟩
def di (e:Es):SE:=sE (E e) [] dJ
theorem dj (e:Es):bR (di e) 6 Vv qY NJ:=fun _ _=>by kernel_rfl
theorem FT (e:Es) (he:EG e):bP (E e) (qY.pw yD) xU:=bT he (dj e) (bK (aQ.uni _) trivial trivial he.ok) bH.flat (aW (by kernel_rfl))
abbrev gF:Type:=Int→Int→(Int→Prop)→Prop
def FU (x0:Int→Int→Bool→Prop):Nat→Int→Int→Prop
 | 0,_,_=>False
 | n+1,b,c=>
 (aB (decide (c>0)) (aA (!(decide (c=0))) (FU x0 n c (Int.tmod b c))) (x0 b c false))
def NK (b c:Int) (K:Int→Prop):Prop:=
 (∃ n:Nat,FU (fun d _ _=>(K d)) n b c)
def pQ:gF:=NK
def dO:fH:=vI u64
def NL:jE:=lC dO lN
def uI:jE:=lC dO NL
def uJ:Sg:=⟨uI,Int→Prop,fun K=>(fun r0=>K (.int .u64 r0))⟩
def dl (Q:Qx):Int→Int→Bool→Prop:=(fun b c d=>Q (.exit 0) [(0,.v (.int .u64 b)),(1,.v (.int .u64 c)),(6,.v (.bool d))] [])
def Wm:Pat pO:=pS hN (fV 0 dO (fV 1 dO fN)) fN
def Wn (Q:Qx):List St:=[⟨Wm,FU (dl Q)⟩]
def Wo:LP:=eQ [(32725300,Wn)]
def NM (e:Es):SE:=sE (E e) [] (Wo)
theorem Wp (e:Es) (he:EG e):SEOk (aZ (E e)) (NM e):=bK (aQ.uni _) trivial trivial he.ok
theorem dm (e:Es):dF (NM e) 5 a MT false (Wn):=fun _=>⟨fun _=>by kernel_rfl,fun _ _=>by kernel_rfl,trivial⟩
theorem dp (e:Es) (he:EG e):dG (aZ (E e)) (Wo) [] 32725300 (.loop 32725300 MT):=fun _ _ _=>cJ.st (aQ.uni _) (cM (Wp e he) 5) (cS.no _ _) (aW (by kernel_rfl)) (dm e _)
theorem dt (e:Es):bR (NM e) 6 MS uJ NK:=fun _ _=>by kernel_rfl
theorem Jl (e:Es) (he:EG e):bP (E e) (uJ.pw pQ) AI:=bT he (dt e) (Wp e he) bH.flat (dA (l:=[(32725300,.loop 32725300 MT)]) ⟨dp e he,trivial⟩ (by kernel_rfl))
def NN (a0:gB) (a1:gF) (b c:Int) (K:Int→Prop):Prop:=
 (aB (decide (c<1)) (K 8) (a0 b (fun d=>(aB (decide ((if (u64.wrap c)>d then (u64.wrap c) else d)>1000000000000000000)) (K 8) (a0 b (fun e=>(a1 e (u64.wrap c) (fun f=>(aB (decide (f>1)) (K 8) (K 0))))))))))
def yE:gF:=NN yD pQ
def CX:jE:=lC cF Jk
def qZ:fH:=vA CX
def FW:jE:=lC qZ lN
abbrev J4 (t:Type):Type:=Int→Int→Int→Int→t
abbrev J16 (t:Type):Type:=J4 (J4 (J4 (J4 t)))
@[match_pattern] abbrev ic (n:Int):PV:=.int .i64 n
def gz (n:Nat):PV:=.agg (replicate n (.int .i64 0))
abbrev gi2:Sh:=.agg [.i .i64,.i .i64]
abbrev gi4:Sh:=.agg [.i .i64,.i .i64,.i .i64,.i .i64]
def ga (l:List Int):PV:=.agg (l.map (.int .i64))
def yF:Sg:=⟨FW,Int→Prop,fun K=>(fun r0=>K (ic r0))⟩
def du (e:Es) (a0:gB) (a1:gF):SE:=sE (E e) [(xU,qY.pw a0),(AI,uJ.pw a1)] dJ
theorem dv (e:Es) (a0 a1):bR (du e a0 a1) 6 Vw yF (NN a0 a1):=fun _ _=>by kernel_rfl
theorem NO (e:Es) (he:EG e):bP (E e) (yF.pw yE) FA:=bT he (dv e _ _) (bK (aQ.uni _) ⟨(FT e he),(Jl e he),trivial⟩ trivial he.ok) bH.flat (aW (by kernel_rfl))
abbrev dS:Type:=Ls→(Int→Prop)→Prop
def CY (x0:Int→Prop) (x1:Int→Ls→Int→Int→Bool→Prop):Nat→Int→Ls→Int→Int→Prop
 | 0,_,_,_,_=>False
 | n+1,b,c,d,e=>
 (aB (decide (e<d)) (aA (decide (0≤e)) (aA (decide (e<(((length c):Nat):Int))) (aA (aF zI (getD c (e.toNat) .nils)) (aB ((aK (getD c (e.toNat) .nils)) !=b) (x0 (aK (getD c (e.toNat) .nils))) (CY x0 x1 n b c d (i64.wrap (e+1))))))) (x1 b c d e false))
def NP (b:Ls) (K:Int→Prop):Prop:=
 (∃ n:Nat,CY K (fun c _ _ _ _=>(K c)) n 0 b (((length b):Nat):Int) 0)
def Jm:dS:=NP
def yG:jE:=lC vD lN
def iP:Sg:=⟨yG,Int→Prop,fun K=>(fun r0=>K (ic r0))⟩
def dw (Q:Qx):Int→Prop:=(fun b=>Q .ret [(2,.v (ic b))] [])
def dx (Q:Qx):Int→Ls→Int→Int→Bool→Prop:=(fun b c d e f=>Q (.exit 0) [(3,.v (ic b)),(6,.v (.data c)),(7,.v (ic d)),(8,.v (ic e)),(9,.v (.bool f))] [])
def AP:Pat aG:=fV 7 cF (fV 8 cF fN)
def FX:Pat pO:=pS hN (fV 3 cF (fV 6 vD AP)) fN
def Wq (Q:Qx):List St:=[⟨FX,CY (dw Q) (dx Q)⟩]
def Wr:LP:=eQ [(38508400,Wq)]
def NQ (e:Es):SE:=sE (E e) [] (Wr)
theorem Ws (e:Es) (he:EG e):SEOk (aZ (E e)) (NQ e):=bK (aQ.uni _) trivial trivial he.ok
theorem dy (e:Es):dF (NQ e) 5 a MV false (Wq):=fun _=>⟨fun _=>by kernel_rfl,fun _ _=>by kernel_rfl,trivial⟩
theorem dz (e:Es) (he:EG e):dG (aZ (E e)) (Wr) [] 38508400 (.loop 38508400 MV):=fun _ _ _=>cJ.st (aQ.uni _) (cM (Ws e he) 5) (cS.no _ _) (aW (by kernel_rfl)) (dy e _)
theorem ee (e:Es):bR (NQ e) 6 MU iP NP:=fun _ _=>by kernel_rfl
theorem eh (e:Es) (he:EG e):bP (E e) (iP.pw Jm) IJ:=bT he (ee e) (Ws e he) bH.flat (dA (l:=[(38508400,.loop 38508400 MV)]) ⟨dz e he,trivial⟩ (by kernel_rfl))
abbrev gS:Type:=J4 ((Int→Prop)→Prop)
def NR (a0:gF) (a1:dS) (b c d e:Int) (K:Int→Prop):Prop:=
 (a0 b c (fun f=>(a0 d e (fun g=>(a1 ([(ic f),(ic g)]:Ls) K)))))
def yH:gS:=NR yE Jm
def rB:jE:=lC qZ FW
def mT:Sg:=⟨rB,Int→Prop,fun K=>(fun r0=>K (ic r0))⟩
def ei (e:Es) (a0:gF) (a1:dS):SE:=sE (E e) [(FA,yF.pw a0),(IJ,iP.pw a1)] dJ
theorem el (e:Es) (a0 a1):bR (ei e a0 a1) 6 Vx mT (NR a0 a1):=fun _ _=>by kernel_rfl
theorem FY (e:Es) (he:EG e):bP (E e) (mT.pw yH) xV:=bT he (el e _ _) (bK (aQ.uni _) ⟨(NO e he),(eh e he),trivial⟩ trivial he.ok) bH.flat (aW (by kernel_rfl))
abbrev CZ:Type:=Int→(Bool→Prop)→Prop
def NS (b:Int) (K:Bool→Prop):Prop:=
 (K (b !=b))
def NT:CZ:=NS
def NU:Sg:=⟨Jk,Bool→Prop,fun K=>(fun r0=>K (.bool r0))⟩
def ep (e:Es):SE:=sE (E e) [] dJ
theorem er (e:Es):bR (ep e) 6 Vy NU NS:=fun _ _=>by kernel_rfl
theorem eu (e:Es) (he:EG e):bP (E e) (NU.pw NT) IK:=bT he (er e) (bK (aQ.uni _) trivial trivial he.ok) bH.flat (aW (by kernel_rfl))
def NV (a0:CZ) (b c:Int) (K:Int→Prop):Prop:=
 (a0 b (fun d=>(a0 c (fun e=>(aB d (aB e (K 0) (K (-1))) (aB e (K 1) (aB (decide (b<c)) (K (-1)) (aB (decide (b>c)) (K 1) (K 0)))))))))
def Jn:gF:=NV NT
def NW:Sg:=⟨CX,Int→Prop,fun K=>(fun r0=>K (ic r0))⟩
def ew (e:Es) (a0:CZ):SE:=sE (E e) [(IK,NU.pw a0)] dJ
theorem ey (e:Es) (a0):bR (ew e a0) 6 Vz NW (NV a0):=fun _ _=>by kernel_rfl
theorem fc (e:Es) (he:EG e):bP (E e) (NW.pw Jn) IL:=bT he (ey e _) (bK (aQ.uni _) ⟨(eu e he),trivial⟩ trivial he.ok) bH.flat (aW (by kernel_rfl))
abbrev sR:Type:=Int→Int→(Int→Int→Prop)→Prop
def NX (b c:Int) (K:Int→Int→Prop):Prop:=
 (K (u64.wrap ((u64.wrap ((u64.wrap ((Int.fdiv b 4294967296)*(Int.fdiv c 4294967296)))+(Int.fdiv (u64.wrap ((u64.wrap ((Int.fdiv b 4294967296)*(u64.wrap (BitVec.ofInt u64.bits c&&&BitVec.ofInt u64.bits 4294967295).toNat)))+(Int.fdiv (u64.wrap ((u64.wrap (BitVec.ofInt u64.bits b&&&BitVec.ofInt u64.bits 4294967295).toNat)*(u64.wrap (BitVec.ofInt u64.bits c&&&BitVec.ofInt u64.bits 4294967295).toNat))) 4294967296))) 4294967296)))+(Int.fdiv (u64.wrap ((u64.wrap (BitVec.ofInt u64.bits (u64.wrap ((u64.wrap ((Int.fdiv b 4294967296)*(u64.wrap (BitVec.ofInt u64.bits c&&&BitVec.ofInt u64.bits 4294967295).toNat)))+(Int.fdiv (u64.wrap ((u64.wrap (BitVec.ofInt u64.bits b&&&BitVec.ofInt u64.bits 4294967295).toNat)*(u64.wrap (BitVec.ofInt u64.bits c&&&BitVec.ofInt u64.bits 4294967295).toNat))) 4294967296)))&&&BitVec.ofInt u64.bits 4294967295).toNat)+(u64.wrap ((u64.wrap (BitVec.ofInt u64.bits b&&&BitVec.ofInt u64.bits 4294967295).toNat)*(Int.fdiv c 4294967296))))) 4294967296))) (u64.wrap (b*c)))
def uK:sR:=NX
def FZ:Sg:=⟨uI,Int→Int→Prop,fun K=>(fun r0 r1=>K (.tup [(.int .u64 r0),(.int .u64 r1)]))⟩
def ff (e:Es):SE:=sE (E e) [] dJ
theorem fh (e:Es):bR (ff e) 6 VA FZ NX:=fun _ _=>by kernel_rfl
theorem NY (e:Es) (he:EG e):bP (E e) (FZ.pw uK) CF:=bT he (fh e) (bK (aQ.uni _) trivial trivial he.ok) bH.flat (aW (by kernel_rfl))
def NZ (b:Int) (K:Bool→Prop):Prop:=
 (K (b !=b))
def Oa:CZ:=NZ
def Ob:Sg:=⟨NL,Bool→Prop,fun K=>(fun r0=>K (.bool r0))⟩
def fi (e:Es):SE:=sE (E e) [] dJ
theorem fj (e:Es):bR (fi e) 6 VB Ob NZ:=fun _ _=>by kernel_rfl
theorem fk (e:Es) (he:EG e):bP (E e) (Ob.pw Oa) IM:=bT he (fj e) (bK (aQ.uni _) trivial trivial he.ok) bH.flat (aW (by kernel_rfl))
def Oc (a0:CZ) (b c:Int) (K:Int→Prop):Prop:=
 (a0 b (fun d=>(a0 c (fun e=>(aB d (aB e (K 0) (K (-1))) (aB e (K 1) (aB (decide (b<c)) (K (-1)) (aB (decide (b>c)) (K 1) (K 0)))))))))
def Jo:gF:=Oc Oa
def Od:Sg:=⟨uI,Int→Prop,fun K=>(fun r0=>K (ic r0))⟩
def fm (e:Es) (a0:CZ):SE:=sE (E e) [(IM,Ob.pw a0)] dJ
theorem fp (e:Es) (a0):bR (fm e a0) 6 VD Od (Oc a0):=fun _ _=>by kernel_rfl
theorem fq (e:Es) (he:EG e):bP (E e) (Od.pw Jo) IN:=bT he (fp e _) (bK (aQ.uni _) ⟨(fk e he),trivial⟩ trivial he.ok) bH.flat (aW (by kernel_rfl))
def Da (x0:Int→Prop) (x1:Int→Ls→Int→Int→Bool→Prop):Nat→Int→Ls→Int→Int→Prop
 | 0,_,_,_,_=>False
 | n+1,b,c,d,e=>
 (aB (decide (e<d)) (aA (decide (0≤e)) (aA (decide (e<(((length c):Nat):Int))) (aA (aF zI (getD c (e.toNat) .nils)) (aB ((aK (getD c (e.toNat) .nils)) !=b) (x0 (aK (getD c (e.toNat) .nils))) (Da x0 x1 n b c d (i64.wrap (e+1))))))) (x1 b c d e false))
def Oe (b:Ls) (K:Int→Prop):Prop:=
 (∃ n:Nat,Da K (fun c _ _ _ _=>(K c)) n 0 b (((length b):Nat):Int) 0)
def Jp:dS:=Oe
def fw (Q:Qx):Int→Prop:=(fun b=>Q .ret [(2,.v (ic b))] [])
def fx (Q:Qx):Int→Ls→Int→Int→Bool→Prop:=(fun b c d e f=>Q (.exit 0) [(3,.v (ic b)),(6,.v (.data c)),(7,.v (ic d)),(8,.v (ic e)),(9,.v (.bool f))] [])
def Wt (Q:Qx):List St:=[⟨FX,Da (fw Q) (fx Q)⟩]
def Wu:LP:=eQ [(53260600,Wt)]
def Of (e:Es):SE:=sE (E e) [] (Wu)
theorem Wv (e:Es) (he:EG e):SEOk (aZ (E e)) (Of e):=bK (aQ.uni _) trivial trivial he.ok
theorem fy (e:Es):dF (Of e) 5 a MX false (Wt):=fun _=>⟨fun _=>by kernel_rfl,fun _ _=>by kernel_rfl,trivial⟩
theorem gh (e:Es) (he:EG e):dG (aZ (E e)) (Wu) [] 53260600 (.loop 53260600 MX):=fun _ _ _=>cJ.st (aQ.uni _) (cM (Wv e he) 5) (cS.no _ _) (aW (by kernel_rfl)) (fy e _)
theorem gi (e:Es):bR (Of e) 6 MW iP Oe:=fun _ _=>by kernel_rfl
theorem gj (e:Es) (he:EG e):bP (E e) (iP.pw Jp) IP:=bT he (gi e) (Wv e he) bH.flat (dA (l:=[(53260600,.loop 53260600 MX)]) ⟨gh e he,trivial⟩ (by kernel_rfl))
abbrev rD:Type:=J4 ((Int→Int→Prop)→Prop)
def Og (a0:gS) (a1:gF) (a2:gB) (a3:sR) (a4:gF) (a5:dS) (b c d e:Int) (K:Int→Int→Prop):Prop:=
 (a0 b c d e (fun f=>(aB (f !=0) (K 0 f) (aB ((decide (b<0)) !=(decide (d<0))) (a1 b d (fun g=>(K g 0))) (a2 b (fun g=>(a3 g (u64.wrap e) (fun h i=>(a2 d (fun j=>(a3 j (u64.wrap c) (fun k l=>(a4 h k (fun m=>(a4 i l (fun o=>(a5 ([(ic m),(ic o)]:Ls) (fun p=>(aB (decide (b<0)) (K (i64.wrap (0-p)) 0) (K p 0))))))))))))))))))))
def rE:rD:=Og yH Jn yD uK Jo Jp
def AQ:Sg:=⟨rB,Int→Int→Prop,fun K=>(fun r0 r1=>K (.tup [(ic r0),(ic r1)]))⟩
def gk (e:Es) (a0:gS) (a1:gF) (a2:gB) (a3:sR) (a4:gF) (a5:dS):SE:=sE (E e) [(xV,mT.pw a0),(IL,NW.pw a1),(xU,qY.pw a2),(CF,FZ.pw a3),(IN,Od.pw a4),(IP,iP.pw a5)] dJ
theorem gm (e:Es) (a0 a1 a2 a3 a4 a5):bR (gk e a0 a1 a2 a3 a4 a5) 6 VE AQ (Og a0 a1 a2 a3 a4 a5):=fun _ _=>by kernel_rfl
theorem Db (e:Es) (he:EG e):bP (E e) (AQ.pw rE) xW:=bT he (gm e _ _ _ _ _ _) (bK (aQ.uni _) ⟨(FY e he),(fc e he),(FT e he),(NY e he),(fq e he),(gj e he),trivial⟩ trivial he.ok) bH.flat (aW (by kernel_rfl))
def Oh (b:Int) (K:Int→Prop):Prop:=
 (aB (decide (b≥4294967296)) (aB (decide ((Int.fdiv b 4294967296)≥65536)) (aB (decide ((Int.fdiv (Int.fdiv b 4294967296) 65536)≥256)) (aA (decide (0≤(u8.wrap (Int.fdiv (Int.fdiv (Int.fdiv b 4294967296) 65536) 256)))) (aA (decide ((u8.wrap (Int.fdiv (Int.fdiv (Int.fdiv b 4294967296) 65536) 256))<256)) (K (i64.wrap (56+(i64.wrap (aK (getD qS ((u8.wrap (Int.fdiv (Int.fdiv (Int.fdiv b 4294967296) 65536) 256)).toNat) .nils)))))))) (aA (decide (0≤(u8.wrap (Int.fdiv (Int.fdiv b 4294967296) 65536)))) (aA (decide ((u8.wrap (Int.fdiv (Int.fdiv b 4294967296) 65536))<256)) (K (i64.wrap (48+(i64.wrap (aK (getD qS ((u8.wrap (Int.fdiv (Int.fdiv b 4294967296) 65536)).toNat) .nils))))))))) (aB (decide ((Int.fdiv b 4294967296)≥256)) (aA (decide (0≤(u8.wrap (Int.fdiv (Int.fdiv b 4294967296) 256)))) (aA (decide ((u8.wrap (Int.fdiv (Int.fdiv b 4294967296) 256))<256)) (K (i64.wrap (40+(i64.wrap (aK (getD qS ((u8.wrap (Int.fdiv (Int.fdiv b 4294967296) 256)).toNat) .nils)))))))) (aA (decide (0≤(u8.wrap (Int.fdiv b 4294967296)))) (aA (decide ((u8.wrap (Int.fdiv b 4294967296))<256)) (K (i64.wrap (32+(i64.wrap (aK (getD qS ((u8.wrap (Int.fdiv b 4294967296)).toNat) .nils)))))))))) (aB (decide (b≥65536)) (aB (decide ((Int.fdiv b 65536)≥256)) (aA (decide (0≤(u8.wrap (Int.fdiv (Int.fdiv b 65536) 256)))) (aA (decide ((u8.wrap (Int.fdiv (Int.fdiv b 65536) 256))<256)) (K (i64.wrap (24+(i64.wrap (aK (getD qS ((u8.wrap (Int.fdiv (Int.fdiv b 65536) 256)).toNat) .nils)))))))) (aA (decide (0≤(u8.wrap (Int.fdiv b 65536)))) (aA (decide ((u8.wrap (Int.fdiv b 65536))<256)) (K (i64.wrap (16+(i64.wrap (aK (getD qS ((u8.wrap (Int.fdiv b 65536)).toNat) .nils))))))))) (aB (decide (b≥256)) (aA (decide (0≤(u8.wrap (Int.fdiv b 256)))) (aA (decide ((u8.wrap (Int.fdiv b 256))<256)) (K (i64.wrap (8+(i64.wrap (aK (getD qS ((u8.wrap (Int.fdiv b 256)).toNat) .nils)))))))) (aA (decide (0≤(u8.wrap b))) (aA (decide ((u8.wrap b)<256)) (K (i64.wrap (0+(i64.wrap (aK (getD qS ((u8.wrap b).toNat) .nils)))))))))))
def Jq:gB:=Oh
def Dc:Sg:=⟨NL,Int→Prop,fun K=>(fun r0=>K (ic r0))⟩
def gn (e:Es):SE:=sE (E e) [] dJ
theorem gq (e:Es):bR (gn e) 6 VM Dc Oh:=fun _ _=>by kernel_rfl
theorem gr (e:Es) (he:EG e):bP (E e) (Dc.pw Jq) IT:=bT he (gq e) (bK (aQ.uni _) trivial trivial he.ok) bH.flat (aW (by kernel_rfl))
def Oi (a0:gB) (b:Int) (K:Int→Prop):Prop:=
 (a0 b (fun c=>(K (i64.wrap (64-c)))))
def yI:gB:=Oi Jq
def gu (e:Es) (a0:gB):SE:=sE (E e) [(IT,Dc.pw a0)] dJ
theorem gv (e:Es) (a0):bR (gu e a0) 6 VN Dc (Oi a0):=fun _ _=>by kernel_rfl
theorem gw (e:Es) (he:EG e):bP (E e) (Dc.pw yI) IU:=bT he (gv e _) (bK (aQ.uni _) ⟨(gr e he),trivial⟩ trivial he.ok) bH.flat (aW (by kernel_rfl))
abbrev Ga:Type:=Int→Int→Int→(Int→Int→Prop)→Prop
mutual
def Jr (a0:gB) (x0:J4 (J4 (Int→Bool→Prop))) (x1:J4 (J4 (Int→Bool→Prop))):Nat→J4 (J4 (Int→Prop))
 | 0,_,_,_,_,_,_,_,_,_=>False
 | n+1,b,c,d,e,f,g,h,i,j=>
 (aB (decide (i≥4294967296)) (aB (decide ((u64.wrap (j+d))≥4294967296)) (x0 b c d e f g h (u64.wrap (i-1)) (u64.wrap (j+d)) true) (yJ a0 x0 x1 n b c d e f g h (u64.wrap (i-1)) (u64.wrap (j+d)) false)) (aB (decide ((u64.wrap (i*e))>(u64.wrap ((u64.wrap (4294967296*j))+g)))) (aB (decide ((u64.wrap (j+d))≥4294967296)) (x0 b c d e f g h (u64.wrap (i-1)) (u64.wrap (j+d)) true) (yJ a0 x0 x1 n b c d e f g h (u64.wrap (i-1)) (u64.wrap (j+d)) false)) (x1 b c d e f g h i j false)))
def yJ (a0:gB) (x0:J4 (J4 (Int→Bool→Prop))) (x1:J4 (J4 (Int→Bool→Prop))):Nat→J4 (J4 (Int→Bool→Prop))
 | 0,_,_,_,_,_,_,_,_,_,_=>False
 | n+1,b,c,d,e,f,g,h,i,j,_=>
 (aB (decide (i≥4294967296)) (aB (decide ((u64.wrap (j+d))≥4294967296)) (x0 b c d e f g h (u64.wrap (i-1)) (u64.wrap (j+d)) true) (yJ a0 x0 x1 n b c d e f g h (u64.wrap (i-1)) (u64.wrap (j+d)) false)) (aB (decide ((u64.wrap (i*e))>(u64.wrap ((u64.wrap (4294967296*j))+g)))) (aB (decide ((u64.wrap (j+d))≥4294967296)) (x0 b c d e f g h (u64.wrap (i-1)) (u64.wrap (j+d)) true) (yJ a0 x0 x1 n b c d e f g h (u64.wrap (i-1)) (u64.wrap (j+d)) false)) (x1 b c d e f g h i j false)))
end
mutual
def Dd (a0:gB) (x0:J4 (J4 (Int→Bool→Prop))) (x1:J4 (J4 (Int→Bool→Prop))):Nat→J4 (J4 (Int→Prop))
 | 0,_,_,_,_,_,_,_,_,_=>False
 | n+1,b,c,d,e,f,g,h,i,j=>
 (aB (decide (j≥4294967296)) (aB (decide ((u64.wrap (h+d))≥4294967296)) (x0 b c d e f g (u64.wrap (h+d)) i (u64.wrap (j-1)) true) (yK a0 x0 x1 n b c d e f g (u64.wrap (h+d)) i (u64.wrap (j-1)) false)) (aB (decide ((u64.wrap (j*e))>(u64.wrap ((u64.wrap (4294967296*h))+f)))) (aB (decide ((u64.wrap (h+d))≥4294967296)) (x0 b c d e f g (u64.wrap (h+d)) i (u64.wrap (j-1)) true) (yK a0 x0 x1 n b c d e f g (u64.wrap (h+d)) i (u64.wrap (j-1)) false)) (x1 b c d e f g h i j false)))
def yK (a0:gB) (x0:J4 (J4 (Int→Bool→Prop))) (x1:J4 (J4 (Int→Bool→Prop))):Nat→J4 (J4 (Int→Bool→Prop))
 | 0,_,_,_,_,_,_,_,_,_,_=>False
 | n+1,b,c,d,e,f,g,h,i,j,_=>
 (aB (decide (j≥4294967296)) (aB (decide ((u64.wrap (h+d))≥4294967296)) (x0 b c d e f g (u64.wrap (h+d)) i (u64.wrap (j-1)) true) (yK a0 x0 x1 n b c d e f g (u64.wrap (h+d)) i (u64.wrap (j-1)) false)) (aB (decide ((u64.wrap (j*e))>(u64.wrap ((u64.wrap (4294967296*h))+f)))) (aB (decide ((u64.wrap (h+d))≥4294967296)) (x0 b c d e f g (u64.wrap (h+d)) i (u64.wrap (j-1)) true) (yK a0 x0 x1 n b c d e f g (u64.wrap (h+d)) i (u64.wrap (j-1)) false)) (x1 b c d e f g h i j false)))
end
def Oj (a0:gB) (b c d:Int) (K:Int→Int→Prop):Prop:=
 (aB (d==0) False (aB (decide (d≤b)) False (aB (b==0) (aA (!(decide (d=0))) (aA (!(decide (d=0))) (K (u64.wrap (Int.tdiv c d)) (Int.tmod c d)))) (a0 d (fun e=>(aA (!(decide ((u64.wrap e)<0))) (aA (!(decide ((u64.wrap e)<0))) (aA (!(decide ((u64.wrap (64-(u64.wrap e)))<0))) (aA (!(decide ((u64.wrap e)<0))) (aA (!(decide ((Int.fdiv (u64.wrap (d*2 ^ (min (u64.wrap e).toNat u64.bits))) 4294967296)=0))) (∃ m0:Nat,Jr a0 (fun f g h i j k l m _ _=>(aA (!(decide (h=0))) (∃ m1:Nat,Dd a0 (fun q r _ _ u v _ z A _=>(aA (!(decide (r<0))) (K (u64.wrap ((u64.wrap (v*4294967296))+A)) (Int.fdiv (u64.wrap ((u64.wrap ((u64.wrap (z*4294967296))+u))-(u64.wrap (A*q)))) (2 ^ (min r.toNat u64.bits)))))) (fun q r _ _ u v _ z A _=>(aA (!(decide (r<0))) (K (u64.wrap ((u64.wrap (v*4294967296))+A)) (Int.fdiv (u64.wrap ((u64.wrap ((u64.wrap (z*4294967296))+u))-(u64.wrap (A*q)))) (2 ^ (min r.toNat u64.bits)))))) m1 f g h i l m (u64.wrap ((u64.wrap ((u64.wrap ((u64.wrap (j*4294967296))+k))-(u64.wrap (m*f))))-(u64.wrap ((u64.wrap (Int.tdiv (u64.wrap ((u64.wrap ((u64.wrap (j*4294967296))+k))-(u64.wrap (m*f)))) h))*h)))) (u64.wrap ((u64.wrap ((u64.wrap (j*4294967296))+k))-(u64.wrap (m*f)))) (u64.wrap (Int.tdiv (u64.wrap ((u64.wrap ((u64.wrap (j*4294967296))+k))-(u64.wrap (m*f)))) h))))) (fun f g h i j k l m _ _=>(aA (!(decide (h=0))) (∃ m1:Nat,Dd a0 (fun q r _ _ u v _ z A _=>(aA (!(decide (r<0))) (K (u64.wrap ((u64.wrap (v*4294967296))+A)) (Int.fdiv (u64.wrap ((u64.wrap ((u64.wrap (z*4294967296))+u))-(u64.wrap (A*q)))) (2 ^ (min r.toNat u64.bits)))))) (fun q r _ _ u v _ z A _=>(aA (!(decide (r<0))) (K (u64.wrap ((u64.wrap (v*4294967296))+A)) (Int.fdiv (u64.wrap ((u64.wrap ((u64.wrap (z*4294967296))+u))-(u64.wrap (A*q)))) (2 ^ (min r.toNat u64.bits)))))) m1 f g h i l m (u64.wrap ((u64.wrap ((u64.wrap ((u64.wrap (j*4294967296))+k))-(u64.wrap (m*f))))-(u64.wrap ((u64.wrap (Int.tdiv (u64.wrap ((u64.wrap ((u64.wrap (j*4294967296))+k))-(u64.wrap (m*f)))) h))*h)))) (u64.wrap ((u64.wrap ((u64.wrap (j*4294967296))+k))-(u64.wrap (m*f)))) (u64.wrap (Int.tdiv (u64.wrap ((u64.wrap ((u64.wrap (j*4294967296))+k))-(u64.wrap (m*f)))) h))))) m0 (u64.wrap (d*2 ^ (min (u64.wrap e).toNat u64.bits))) (u64.wrap e) (Int.fdiv (u64.wrap (d*2 ^ (min (u64.wrap e).toNat u64.bits))) 4294967296) (u64.wrap (BitVec.ofInt u64.bits (u64.wrap (d*2 ^ (min (u64.wrap e).toNat u64.bits)))&&&BitVec.ofInt u64.bits 4294967295).toNat) (u64.wrap (BitVec.ofInt u64.bits (u64.wrap (b*2 ^ (min (u64.wrap e).toNat u64.bits)))|||BitVec.ofInt u64.bits (Int.fdiv c (2 ^ (min (u64.wrap (64-(u64.wrap e))).toNat u64.bits)))).toNat) (Int.fdiv (u64.wrap (c*2 ^ (min (u64.wrap e).toNat u64.bits))) 4294967296) (u64.wrap (BitVec.ofInt u64.bits (u64.wrap (c*2 ^ (min (u64.wrap e).toNat u64.bits)))&&&BitVec.ofInt u64.bits 4294967295).toNat) (u64.wrap (Int.tdiv (u64.wrap (BitVec.ofInt u64.bits (u64.wrap (b*2 ^ (min (u64.wrap e).toNat u64.bits)))|||BitVec.ofInt u64.bits (Int.fdiv c (2 ^ (min (u64.wrap (64-(u64.wrap e))).toNat u64.bits)))).toNat) (Int.fdiv (u64.wrap (d*2 ^ (min (u64.wrap e).toNat u64.bits))) 4294967296))) (u64.wrap ((u64.wrap (BitVec.ofInt u64.bits (u64.wrap (b*2 ^ (min (u64.wrap e).toNat u64.bits)))|||BitVec.ofInt u64.bits (Int.fdiv c (2 ^ (min (u64.wrap (64-(u64.wrap e))).toNat u64.bits)))).toNat)-(u64.wrap ((u64.wrap (Int.tdiv (u64.wrap (BitVec.ofInt u64.bits (u64.wrap (b*2 ^ (min (u64.wrap e).toNat u64.bits)))|||BitVec.ofInt u64.bits (Int.fdiv c (2 ^ (min (u64.wrap (64-(u64.wrap e))).toNat u64.bits)))).toNat) (Int.fdiv (u64.wrap (d*2 ^ (min (u64.wrap e).toNat u64.bits))) 4294967296)))*(Int.fdiv (u64.wrap (d*2 ^ (min (u64.wrap e).toNat u64.bits))) 4294967296))))))))))))))))
def yL:Ga:=Oj yI
def Js:Sg:=⟨(lC dO uI),Int→Int→Prop,fun K=>(fun r0 r1=>K (.tup [(.int .u64 r0),(.int .u64 r1)]))⟩
def Ww (Q:Qx):J4 (J4 (Int→Bool→Prop )):=(fun b c d e f g h i j k=>Q (.exit 0) [(2,.v (.int .u64 b)),(8,.v (.int .u64 c)),(9,.v (.int .u64 d)),(10,.v (.int .u64 e)),(11,.v (.int .u64 f)),(13,.v (.int .u64 g)),(14,.v (.int .u64 h)),(15,.v (.int .u64 i)),(16,.v (.int .u64 j)),(85,.v (.bool k))] [])
def Wx (Q:Qx):J4 (J4 (Int→Bool→Prop )):=(fun b c d e f g h i j k=>Q (.exit 0) [(2,.v (.int .u64 b)),(8,.v (.int .u64 c)),(9,.v (.int .u64 d)),(10,.v (.int .u64 e)),(11,.v (.int .u64 f)),(13,.v (.int .u64 g)),(14,.v (.int .u64 h)),(15,.v (.int .u64 i)),(16,.v (.int .u64 j)),(78,.v (.bool k))] [])
def Wy (Q:Qx):J4 (J4 (Int→Bool→Prop )):=(fun b c d e f g h i j k=>Q (.exit 2) [(2,.v (.int .u64 b)),(8,.v (.int .u64 c)),(9,.v (.int .u64 d)),(10,.v (.int .u64 e)),(14,.v (.int .u64 f)),(15,.v (.int .u64 g)),(16,.v (.int .u64 h)),(17,.v (.int .u64 i)),(18,.v (.int .u64 j)),(120,.v (.bool k))] [])
def Wz (Q:Qx):J4 (J4 (Int→Bool→Prop )):=(fun b c d e f g h i j k=>Q (.exit 2) [(2,.v (.int .u64 b)),(8,.v (.int .u64 c)),(9,.v (.int .u64 d)),(10,.v (.int .u64 e)),(14,.v (.int .u64 f)),(15,.v (.int .u64 g)),(16,.v (.int .u64 h)),(17,.v (.int .u64 i)),(18,.v (.int .u64 j)),(113,.v (.bool k))] [])
def WB (a0:gB) (Q:Qx):List St:=[⟨(pS hN (fV 2 dO (fV 8 dO (fV 9 dO (fV 10 dO (fV 11 dO (fV 13 dO (fV 14 dO (fV 15 dO (fV 16 dO fN))))))))) fN),Jr a0 (Ww Q) (Wx Q)⟩,⟨(pS hN (fV 2 dO (fV 8 dO (fV 9 dO (fV 10 dO (fV 11 dO (fV 13 dO (fV 14 dO (fV 15 dO (fV 16 dO (fV 85 vB fN)))))))))) fN),yJ a0 (Ww Q) (Wx Q)⟩]
def WD (a0:gB) (Q:Qx):List St:=[⟨(pS hN (fV 2 dO (fV 8 dO (fV 9 dO (fV 10 dO (fV 14 dO (fV 15 dO (fV 16 dO (fV 17 dO (fV 18 dO fN))))))))) fN),Dd a0 (Wy Q) (Wz Q)⟩,⟨(pS hN (fV 2 dO (fV 8 dO (fV 9 dO (fV 10 dO (fV 14 dO (fV 15 dO (fV 16 dO (fV 17 dO (fV 18 dO (fV 120 vB fN)))))))))) fN),yK a0 (Wy Q) (Wz Q)⟩]
def Ok (a0:gB):LP:=eQ [(60530100,WB a0),(60530101,WD a0)]
def Jt (e:Es) (a0:gB):SE:=sE (E e) [(IU,Dc.pw a0)] (Ok a0)
theorem Ol (e:Es) (he:EG e):SEOk (aZ (E e)) (Jt e yI):=bK (aQ.uni _) ⟨(gw e he),trivial⟩ trivial he.ok
theorem gx (e:Es) (a0):dF (Jt e a0) 5 a Nf false (WB a0):=fun _=>⟨fun _=>by kernel_rfl,fun _ _=>by kernel_rfl,fun _=>by kernel_rfl,fun _ _=>by kernel_rfl,trivial⟩
theorem gy (e:Es) (he:EG e):dG (aZ (E e)) (Ok yI) [] 60530100 (.loop 60530100 Nf):=fun _ _ _=>cJ.st (aQ.uni _) (cM (Ol e he) 5) (cS.no _ _) (aW (by kernel_rfl)) (gx e _ _)
theorem ia (e:Es) (a0):dF (Jt e a0) 5 a Ng false (WD a0):=fun _=>⟨fun _=>by kernel_rfl,fun _ _=>by kernel_rfl,fun _=>by kernel_rfl,fun _ _=>by kernel_rfl,trivial⟩
theorem ie (e:Es) (he:EG e):dG (aZ (E e)) (Ok yI) [] 60530101 (.loop 60530101 Ng):=fun _ _ _=>cJ.st (aQ.uni _) (cM (Ol e he) 5) (cS.no _ _) (aW (by kernel_rfl)) (ia e _ _)
theorem ig (e:Es) (a0):bR (Jt e a0) 6 Jd Js (Oj a0):=fun _ _=>by kernel_rfl
theorem WE (e:Es) (he:EG e):bP (E e) (Js.pw yL) FE:=bT he (ig e _) (Ol e he) bH.flat (dA (l:=[(60530100,.loop 60530100 Nf),(60530101,.loop 60530101 Ng)]) ⟨gy e he,ie e he,trivial⟩ (by kernel_rfl))
abbrev Om:Type:=Int→Int→Int→(Int→Prop)→Prop
def Oo (a0:Ga) (b c d:Int) (K:Int→Prop):Prop:=
 (aA (!(decide (d=0))) (a0 (Int.tmod b d) c d (fun _ f=>(K f))))
def AR:Om:=Oo yL
def Oq:Sg:=⟨(lC dO uI),Int→Prop,fun K=>(fun r0=>K (.int .u64 r0))⟩
def ii (e:Es) (a0:Ga):SE:=sE (E e) [(FE,Js.pw a0)] dJ
theorem ij (e:Es) (a0):bR (ii e a0) 6 VO Oq (Oo a0):=fun _ _=>by kernel_rfl
theorem ik (e:Es) (he:EG e):bP (E e) (Oq.pw AR) IV:=bT he (ij e _) (bK (aQ.uni _) ⟨(WE e he),trivial⟩ trivial he.ok) bH.flat (aW (by kernel_rfl))
abbrev AS:Type:=Bool→Int→Int→(Int→Int→Int→Prop)→Prop
def Ot (b:Bool) (c d:Int) (K:Int→Int→Int→Prop):Prop:=
 (aB (decide ((if d>c then d else c)>1000000000000000000)) (K 0 0 16) (aB b (K (i64.wrap (0-(i64.wrap c))) (i64.wrap d) 0) (K (i64.wrap c) (i64.wrap d) 0)))
def uL:AS:=Ot
def Gb:Sg:=⟨(lC vB uI),Int→Int→Int→Prop,fun K=>(fun r0 r1 r2=>K (.tup [(.agg [(ic r0),(ic r1)]),(ic r2)]))⟩
def il (e:Es):SE:=sE (E e) [] dJ
theorem im (e:Es):bR (il e) 6 VQ Gb Ot:=fun _ _=>by kernel_rfl
theorem Ou (e:Es) (he:EG e):bP (E e) (Gb.pw uL) CI:=bT he (im e) (bK (aQ.uni _) trivial trivial he.ok) bH.flat (aW (by kernel_rfl))
abbrev cY:Type:=J4 ((Int→Int→Int→Prop)→Prop)
def Ov (a0:gS) (a1:gF) (a2:gB) (a3:sR) (a4:Wk) (a5:Om) (a6:Ga) (a7:AS) (a8:Wl) (b c d e:Int) (K:Int→Int→Int→Prop):Prop:=
 (a0 b c d e (fun f=>(aB (f !=0) (K 0 0 f) (a1 (u64.wrap c) (u64.wrap e) (fun g=>(a2 b (fun h=>(aA (!(decide (g=0))) (a3 h (u64.wrap (Int.tdiv (u64.wrap e) g)) (fun i j=>(a2 d (fun k=>(aA (!(decide (g=0))) (a3 k (u64.wrap (Int.tdiv (u64.wrap c) g)) (fun l m=>(aB ((decide (b<0)) ==(decide (d<0))) (a4 j m 0 (fun o p=>(a4 i l p (fun q _=>(aB (q==0) (aB (o==0) (K 0 1 0) (a5 q o g (fun s=>(a1 s g (fun t=>(aB (decide (q≥t)) (K 0 0 16) (a6 q o t (fun u _=>(aA (!(decide (g=0))) (aA (!(decide (t=0))) (a3 (u64.wrap (Int.tdiv (u64.wrap c) g)) (u64.wrap (Int.tdiv (u64.wrap e) t)) (fun w z=>(aB (decide (w>0)) (K 0 0 16) (a7 (decide (b<0)) u z K)))))))))))))) (a5 q o g (fun s=>(a1 s g (fun t=>(aB (decide (q≥t)) (K 0 0 16) (a6 q o t (fun u _=>(aA (!(decide (g=0))) (aA (!(decide (t=0))) (a3 (u64.wrap (Int.tdiv (u64.wrap c) g)) (u64.wrap (Int.tdiv (u64.wrap e) t)) (fun w z=>(aB (decide (w>0)) (K 0 0 16) (a7 (decide (b<0)) u z K)))))))))))))))))) (aB (decide (i<l)) (a8 m j 0 (fun o p=>(a8 l i p (fun q _=>(aB (q==0) (aB (o==0) (K 0 1 0) (a5 q o g (fun s=>(a1 s g (fun t=>(aB (decide (q≥t)) (K 0 0 16) (a6 q o t (fun u _=>(aA (!(decide (g=0))) (aA (!(decide (t=0))) (a3 (u64.wrap (Int.tdiv (u64.wrap c) g)) (u64.wrap (Int.tdiv (u64.wrap e) t)) (fun w z=>(aB (decide (w>0)) (K 0 0 16) (a7 (!(decide (b<0))) u z K)))))))))))))) (a5 q o g (fun s=>(a1 s g (fun t=>(aB (decide (q≥t)) (K 0 0 16) (a6 q o t (fun u _=>(aA (!(decide (g=0))) (aA (!(decide (t=0))) (a3 (u64.wrap (Int.tdiv (u64.wrap c) g)) (u64.wrap (Int.tdiv (u64.wrap e) t)) (fun w z=>(aB (decide (w>0)) (K 0 0 16) (a7 (!(decide (b<0))) u z K)))))))))))))))))) (aB (i==l) (aB (decide (j<m)) (a8 m j 0 (fun o p=>(a8 l i p (fun q _=>(aB (q==0) (aB (o==0) (K 0 1 0) (a5 q o g (fun s=>(a1 s g (fun t=>(aB (decide (q≥t)) (K 0 0 16) (a6 q o t (fun u _=>(aA (!(decide (g=0))) (aA (!(decide (t=0))) (a3 (u64.wrap (Int.tdiv (u64.wrap c) g)) (u64.wrap (Int.tdiv (u64.wrap e) t)) (fun w z=>(aB (decide (w>0)) (K 0 0 16) (a7 (!(decide (b<0))) u z K)))))))))))))) (a5 q o g (fun s=>(a1 s g (fun t=>(aB (decide (q≥t)) (K 0 0 16) (a6 q o t (fun u _=>(aA (!(decide (g=0))) (aA (!(decide (t=0))) (a3 (u64.wrap (Int.tdiv (u64.wrap c) g)) (u64.wrap (Int.tdiv (u64.wrap e) t)) (fun w z=>(aB (decide (w>0)) (K 0 0 16) (a7 (!(decide (b<0))) u z K)))))))))))))))))) (a8 j m 0 (fun o p=>(a8 i l p (fun q _=>(aB (q==0) (aB (o==0) (K 0 1 0) (a5 q o g (fun s=>(a1 s g (fun t=>(aB (decide (q≥t)) (K 0 0 16) (a6 q o t (fun u _=>(aA (!(decide (g=0))) (aA (!(decide (t=0))) (a3 (u64.wrap (Int.tdiv (u64.wrap c) g)) (u64.wrap (Int.tdiv (u64.wrap e) t)) (fun w z=>(aB (decide (w>0)) (K 0 0 16) (a7 (decide (b<0)) u z K)))))))))))))) (a5 q o g (fun s=>(a1 s g (fun t=>(aB (decide (q≥t)) (K 0 0 16) (a6 q o t (fun u _=>(aA (!(decide (g=0))) (aA (!(decide (t=0))) (a3 (u64.wrap (Int.tdiv (u64.wrap c) g)) (u64.wrap (Int.tdiv (u64.wrap e) t)) (fun w z=>(aB (decide (w>0)) (K 0 0 16) (a7 (decide (b<0)) u z K))))))))))))))))))) (a8 j m 0 (fun o p=>(a8 i l p (fun q _=>(aB (q==0) (aB (o==0) (K 0 1 0) (a5 q o g (fun s=>(a1 s g (fun t=>(aB (decide (q≥t)) (K 0 0 16) (a6 q o t (fun u _=>(aA (!(decide (g=0))) (aA (!(decide (t=0))) (a3 (u64.wrap (Int.tdiv (u64.wrap c) g)) (u64.wrap (Int.tdiv (u64.wrap e) t)) (fun w z=>(aB (decide (w>0)) (K 0 0 16) (a7 (decide (b<0)) u z K)))))))))))))) (a5 q o g (fun s=>(a1 s g (fun t=>(aB (decide (q≥t)) (K 0 0 16) (a6 q o t (fun u _=>(aA (!(decide (g=0))) (aA (!(decide (t=0))) (a3 (u64.wrap (Int.tdiv (u64.wrap c) g)) (u64.wrap (Int.tdiv (u64.wrap e) t)) (fun w z=>(aB (decide (w>0)) (K 0 0 16) (a7 (decide (b<0)) u z K))))))))))))))))))))))))))))))))))))
def ya1:cY:=Ov yH pQ yD uK Cx AR yL uL Cy
def jI:Sg:=⟨rB,Int→Int→Int→Prop,fun K=>(fun r0 r1 r2=>K (.tup [(.agg [(ic r0),(ic r1)]),(ic r2)]))⟩
def io (e:Es) (a0:gS) (a1:gF) (a2:gB) (a3:sR) (a4:Wk) (a5:Om) (a6:Ga) (a7:AS) (a8:Wl):SE:=sE (E e) [(xV,mT.pw a0),(AI,uJ.pw a1),(xU,qY.pw a2),(CF,FZ.pw a3),(xX,Mf a4),(IV,Oq.pw a5),(FE,Js.pw a6),(CI,Gb.pw a7),(xY,Mg a8)] dJ
theorem ip (e:Es) (a0 a1 a2 a3 a4 a5 a6 a7 a8):bR (io e a0 a1 a2 a3 a4 a5 a6 a7 a8) 6 VS jI (Ov a0 a1 a2 a3 a4 a5 a6 a7 a8):=fun _ _=>by kernel_rfl
theorem Gc (e:Es) (he:EG e):bP (E e) (jI.pw ya1) AJ:=bT he (ip e _ _ _ _ _ _ _ _ _) (bK (aQ.uni _) ⟨(FY e he),(Jl e he),(FT e he),(NY e he),(dg e he),(ik e he),(WE e he),(Ou e he),(dh e he),trivial⟩ trivial he.ok) bH.flat (aW (by kernel_rfl))
def Ow (a0:gS) (a1:cY) (b c d e:Int) (K:Int→Int→Int→Prop):Prop:=
 (a0 b c d e (fun f=>(aB (f !=0) (K 0 0 f) (a1 b c (i64.wrap (0-d)) e K))))
def sS:cY:=Ow yH ya1
def iq (e:Es) (a0:gS) (a1:cY):SE:=sE (E e) [(xV,mT.pw a0),(AJ,jI.pw a1)] dJ
theorem ir (e:Es) (a0 a1):bR (iq e a0 a1) 6 VT jI (Ow a0 a1):=fun _ _=>by kernel_rfl
theorem WF (e:Es) (he:EG e):bP (E e) (jI.pw sS) IW:=bT he (ir e _ _) (bK (aQ.uni _) ⟨(FY e he),(Gc e he),trivial⟩ trivial he.ok) bH.flat (aW (by kernel_rfl))
def Ox (a0:gS) (a1:gB) (a2:gF) (a3:sR) (a4:AS) (b c d e:Int) (K:Int→Int→Int→Prop):Prop:=
 (a0 b c d e (fun f=>(aB (f !=0) (K 0 0 f) (a1 b (fun g=>(a1 d (fun h=>(a2 g (u64.wrap e) (fun i=>(a2 h (u64.wrap c) (fun j=>(aA (!(decide (i=0))) (aA (!(decide (j=0))) (a3 (u64.wrap (Int.tdiv g i)) (u64.wrap (Int.tdiv h j)) (fun k l=>(aA (!(decide (j=0))) (aA (!(decide (i=0))) (a3 (u64.wrap (Int.tdiv (u64.wrap c) j)) (u64.wrap (Int.tdiv (u64.wrap e) i)) (fun m o=>(aB (decide ((u64.wrap (k+m))>0)) (K 0 0 16) (aB (decide (l>0)) (a4 ((decide (b<0)) !=(decide (d<0))) l o K) (a4 false l o K))))))))))))))))))))))
def rF:cY:=Ox yH yD pQ uK uL
def it (e:Es) (a0:gS) (a1:gB) (a2:gF) (a3:sR) (a4:AS):SE:=sE (E e) [(xV,mT.pw a0),(xU,qY.pw a1),(AI,uJ.pw a2),(CF,FZ.pw a3),(CI,Gb.pw a4)] dJ
theorem iu (e:Es) (a0 a1 a2 a3 a4):bR (it e a0 a1 a2 a3 a4) 6 VU jI (Ox a0 a1 a2 a3 a4):=fun _ _=>by kernel_rfl
theorem Oy (e:Es) (he:EG e):bP (E e) (jI.pw rF) FG:=bT he (iu e _ _ _ _ _) (bK (aQ.uni _) ⟨(FY e he),(FT e he),(Jl e he),(NY e he),(Ou e he),trivial⟩ trivial he.ok) bH.flat (aW (by kernel_rfl))
def Oz (a0:gS) (a1:cY) (b c d e:Int) (K:Int→Int→Int→Prop):Prop:=
 (a0 b c d e (fun f=>(aB (f !=0) (K 0 0 f) (aB (d==0) (K 0 0 18) (aB (decide (d<0)) (a1 b c (i64.wrap (0-e)) (i64.wrap (0-d)) K) (a1 b c e d K))))))
def fJ:cY:=Oz yH rF
def iv (e:Es) (a0:gS) (a1:cY):SE:=sE (E e) [(xV,mT.pw a0),(FG,jI.pw a1)] dJ
theorem iw (e:Es) (a0 a1):bR (iv e a0 a1) 6 VW jI (Oz a0 a1):=fun _ _=>by kernel_rfl
theorem yM (e:Es) (he:EG e):bP (E e) (jI.pw fJ) jH:=bT he (iw e _ _) (bK (aQ.uni _) ⟨(FY e he),(Oy e he),trivial⟩ trivial he.ok) bH.flat (aW (by kernel_rfl))
abbrev lH:Type:=Int→Int→(Int→Int→Int→Prop)→Prop
def OA (a0:gB) (a1:gF) (a2:AS) (b c:Int) (K:Int→Int→Int→Prop):Prop:=
 (aB (c==0) (K 0 0 18) (a0 b (fun d=>(a0 c (fun e=>(a1 d e (fun f=>(aA (!(decide (f=0))) (aA (!(decide (f=0))) (a2 ((decide (b<0)) !=(decide (c<0))) (u64.wrap (Int.tdiv d f)) (u64.wrap (Int.tdiv e f)) K))))))))))
def cU:lH:=OA yD pQ uL
def Ju:Sg:=⟨CX,Int→Int→Int→Prop,fun K=>(fun r0 r1 r2=>K (.tup [(.agg [(ic r0),(ic r1)]),(ic r2)]))⟩
def ix (e:Es) (a0:gB) (a1:gF) (a2:AS):SE:=sE (E e) [(xU,qY.pw a0),(AI,uJ.pw a1),(CI,Gb.pw a2)] dJ
theorem iy (e:Es) (a0 a1 a2):bR (ix e a0 a1 a2) 6 Wb Ju (OA a0 a1 a2):=fun _ _=>by kernel_rfl
theorem OB (e:Es) (he:EG e):bP (E e) (Ju.pw cU) FO:=bT he (iy e _ _ _) (bK (aQ.uni _) ⟨(FT e he),(Jl e he),(Ou e he),trivial⟩ trivial he.ok) bH.flat (aW (by kernel_rfl))
set_option linter.unusedVariables false
theorem iz (p0 p1 r0:Int) (h:∀ K:Int→Prop,K r0→yE p0 p1 K) (K:Int→Prop):yE p0 p1 K=K r0:=
 Aab ⟨fun k=>bX (NO [] fI) (az:=[(.agg [(ic p0),(ic p1)])]) (x:=(ic r0)) (fun K' k'=>h (fun r0=>K' (ic r0)) k') (K:=fun x=>match x with | (ic r0)=>K r0 | _=>False) k,h K⟩
theorem jc (p0 p1 p2 p3 r0 r1:Int) (h:∀ K:Int→Int→Prop,K r0 r1→rE p0 p1 p2 p3 K) (K:Int→Int→Prop):rE p0 p1 p2 p3 K=K r0 r1:=
 Aab ⟨fun k=>bX (Db [] fI) (az:=[(.agg [(ic p0),(ic p1)]),(.agg [(ic p2),(ic p3)])]) (x:=(.tup [(ic r0),(ic r1)])) (fun K' k'=>h (fun r0 r1=>K' (.tup [(ic r0),(ic r1)])) k') (K:=fun x=>match x with | (.tup [(ic r0),(ic r1)])=>K r0 r1 | _=>False) k,h K⟩
theorem jd (p0 p1 p2 p3 r0 r1 r2:Int) (h:∀ K:Int→Int→Int→Prop,K r0 r1 r2→ya1 p0 p1 p2 p3 K) (K:Int→Int→Int→Prop):ya1 p0 p1 p2 p3 K=K r0 r1 r2:=
 Aab ⟨fun k=>bX (Gc [] fI) (az:=[(.agg [(ic p0),(ic p1)]),(.agg [(ic p2),(ic p3)])]) (x:=(.tup [(.agg [(ic r0),(ic r1)]),(ic r2)])) (fun K' k'=>h (fun r0 r1 r2=>K' (.tup [(.agg [(ic r0),(ic r1)]),(ic r2)])) k') (K:=fun x=>match x with | (.tup [(.agg [(ic r0),(ic r1)]),(ic r2)])=>K r0 r1 r2 | _=>False) k,h K⟩
theorem je (p0 p1 p2 p3 r0 r1 r2:Int) (h:∀ K:Int→Int→Int→Prop,K r0 r1 r2→sS p0 p1 p2 p3 K) (K:Int→Int→Int→Prop):sS p0 p1 p2 p3 K=K r0 r1 r2:=
 Aab ⟨fun k=>bX (WF [] fI) (az:=[(.agg [(ic p0),(ic p1)]),(.agg [(ic p2),(ic p3)])]) (x:=(.tup [(.agg [(ic r0),(ic r1)]),(ic r2)])) (fun K' k'=>h (fun r0 r1 r2=>K' (.tup [(.agg [(ic r0),(ic r1)]),(ic r2)])) k') (K:=fun x=>match x with | (.tup [(.agg [(ic r0),(ic r1)]),(ic r2)])=>K r0 r1 r2 | _=>False) k,h K⟩
theorem jf (p0 p1 p2 p3 r0 r1 r2:Int) (h:∀ K:Int→Int→Int→Prop,K r0 r1 r2→rF p0 p1 p2 p3 K) (K:Int→Int→Int→Prop):rF p0 p1 p2 p3 K=K r0 r1 r2:=
 Aab ⟨fun k=>bX (Oy [] fI) (az:=[(.agg [(ic p0),(ic p1)]),(.agg [(ic p2),(ic p3)])]) (x:=(.tup [(.agg [(ic r0),(ic r1)]),(ic r2)])) (fun K' k'=>h (fun r0 r1 r2=>K' (.tup [(.agg [(ic r0),(ic r1)]),(ic r2)])) k') (K:=fun x=>match x with | (.tup [(.agg [(ic r0),(ic r1)]),(ic r2)])=>K r0 r1 r2 | _=>False) k,h K⟩
theorem jg (p0 p1 p2 p3 r0 r1 r2:Int) (h:∀ K:Int→Int→Int→Prop,K r0 r1 r2→fJ p0 p1 p2 p3 K) (K:Int→Int→Int→Prop):fJ p0 p1 p2 p3 K=K r0 r1 r2:=
 Aab ⟨fun k=>bX (yM [] fI) (az:=[(.agg [(ic p0),(ic p1)]),(.agg [(ic p2),(ic p3)])]) (x:=(.tup [(.agg [(ic r0),(ic r1)]),(ic r2)])) (fun K' k'=>h (fun r0 r1 r2=>K' (.tup [(.agg [(ic r0),(ic r1)]),(ic r2)])) k') (K:=fun x=>match x with | (.tup [(.agg [(ic r0),(ic r1)]),(ic r2)])=>K r0 r1 r2 | _=>False) k,h K⟩
theorem jh (p0 p1 r0 r1 r2:Int) (h:∀ K:Int→Int→Int→Prop,K r0 r1 r2→cU p0 p1 K) (K:Int→Int→Int→Prop):cU p0 p1 K=K r0 r1 r2:=
 Aab ⟨fun k=>bX (OB [] fI) (az:=[(ic p0),(ic p1)]) (x:=(.tup [(.agg [(ic r0),(ic r1)]),(ic r2)])) (fun K' k'=>h (fun r0 r1 r2=>K' (.tup [(.agg [(ic r0),(ic r1)]),(ic r2)])) k') (K:=fun x=>match x with | (.tup [(.agg [(ic r0),(ic r1)]),(ic r2)])=>K r0 r1 r2 | _=>False) k,h K⟩
def De (x0:Ls→Int→Int→Bool→Prop):Nat→Ls→Int→Int→Prop
 | 0,_,_,_=>False
 | n+1,b,c,d=>
 (aB (decide (d<(((length b):Nat):Int))) (aA (decide (0≤d)) (aA (decide (d<(((length b):Nat):Int))) (aA (aF zI (getD b (d.toNat) .nils)) (De x0 n b (if (aK (getD b (d.toNat) .nils))<c then (aK (getD b (d.toNat) .nils)) else c) (i64.wrap (d+1)))))) (x0 b c d false))
def OC (b:Ls) (K:Int→Prop):Prop:=
 (aB (decide ((((length b):Nat):Int)<1)) False (aA (decide (0<(((length b):Nat):Int))) (aA (aF zI (getD b 0 .nils)) (∃ n:Nat,De (fun c d e f=>(K d)) n b (aK (getD b 0 .nils)) 1))))
def Df:dS:=OC
def ji (Q:Qx):Ls→Int→Int→Bool→Prop:=(fun b c d e=>Q (.exit 0) [(0,.v (.data b)),(3,.v (ic c)),(4,.v (ic d)),(15,.v (.bool e))] [])
def oI:Pat aG:=fV 4 cF fN
def Gd:Pat pO:=pS hN (fV 0 vD (fV 3 cF oI)) fN
def WH (Q:Qx):List St:=[⟨Gd,De (ji Q)⟩]
def WI:LP:=eQ [(10434000,WH)]
def OD (e:Es):SE:=sE (E e) [] (WI)
theorem WJ (e:Es) (he:EG e):SEOk (aZ (E e)) (OD e):=bK (aQ.uni _) trivial trivial he.ok
theorem jj (e:Es):dF (OD e) 5 a MK false (WH):=fun _=>⟨fun _=>by kernel_rfl,fun _ _=>by kernel_rfl,trivial⟩
theorem jk (e:Es) (he:EG e):dG (aZ (E e)) (WI) [] 10434000 (.loop 10434000 MK):=fun _ _ _=>cJ.st (aQ.uni _) (cM (WJ e he) 5) (cS.no _ _) (aW (by kernel_rfl)) (jj e _)
theorem jl (e:Es):bR (OD e) 6 MJ iP OC:=fun _ _=>by kernel_rfl
theorem jm (e:Es) (he:EG e):bP (E e) (iP.pw Df) IF:=bT he (jl e) (WJ e he) bH.flat (dA (l:=[(10434000,.loop 10434000 MK)]) ⟨jk e he,trivial⟩ (by kernel_rfl))
def Dg (x0:Ls→Int→Int→Bool→Prop):Nat→Ls→Int→Int→Prop
 | 0,_,_,_=>False
 | n+1,b,c,d=>
 (aB (decide (d<(((length b):Nat):Int))) (aA (decide (0≤d)) (aA (decide (d<(((length b):Nat):Int))) (aA (aF zI (getD b (d.toNat) .nils)) (Dg x0 n b (if (aK (getD b (d.toNat) .nils))>c then (aK (getD b (d.toNat) .nils)) else c) (i64.wrap (d+1)))))) (x0 b c d false))
def OE (b:Ls) (K:Int→Prop):Prop:=
 (aB (decide ((((length b):Nat):Int)<1)) False (aA (decide (0<(((length b):Nat):Int))) (aA (aF zI (getD b 0 .nils)) (∃ n:Nat,Dg (fun c d e f=>(K d)) n b (aK (getD b 0 .nils)) 1))))
def Dh:dS:=OE
def jo (Q:Qx):Ls→Int→Int→Bool→Prop:=(fun b c d e=>Q (.exit 0) [(0,.v (.data b)),(3,.v (ic c)),(4,.v (ic d)),(15,.v (.bool e))] [])
def WK (Q:Qx):List St:=[⟨Gd,Dg (jo Q)⟩]
def WM:LP:=eQ [(64079100,WK)]
def OF (e:Es):SE:=sE (E e) [] (WM)
theorem WN (e:Es) (he:EG e):SEOk (aZ (E e)) (OF e):=bK (aQ.uni _) trivial trivial he.ok
theorem jp (e:Es):dF (OF e) 5 a MM false (WK):=fun _=>⟨fun _=>by kernel_rfl,fun _ _=>by kernel_rfl,trivial⟩
theorem jq (e:Es) (he:EG e):dG (aZ (E e)) (WM) [] 64079100 (.loop 64079100 MM):=fun _ _ _=>cJ.st (aQ.uni _) (cM (WN e he) 5) (cS.no _ _) (aW (by kernel_rfl)) (jp e _)
theorem jr (e:Es):bR (OF e) 6 ML iP OE:=fun _ _=>by kernel_rfl
theorem js (e:Es) (he:EG e):bP (E e) (iP.pw Dh) IG:=bT he (jr e) (WN e he) bH.flat (dA (l:=[(64079100,.loop 64079100 MM)]) ⟨jq e he,trivial⟩ (by kernel_rfl))
abbrev fD:Type:=Int→Ls→Ls→(Int→Prop)→Prop
def Di (a0 a1:dS) (x0:Int→Prop) (x1:Int→Ls→Ls→Int→Int→Bool→Prop):Nat→Int→Ls→Ls→Int→Int→Prop
 | 0,_,_,_,_,_=>False
 | n+1,b,c,d,e,f=>
 (aB (decide (f<e)) (aA (decide (0≤f)) (aA (decide (f<(((length c):Nat):Int))) (aA (aF zI (getD c (f.toNat) .nils)) (aA (decide (0≤(i64.wrap (f+1)))) (aA (decide ((i64.wrap (f+1))<(((length c):Nat):Int))) (aA (aF zI (getD c ((i64.wrap (f+1)).toNat) .nils)) (aB (decide ((aK (getD c (f.toNat) .nils))≥(aK (getD c ((i64.wrap (f+1)).toNat) .nils)))) (x0 8) (Di a0 a1 x0 x1 n b c d e (i64.wrap (f+1)))))))))) (x1 b c d e f false))
def OG (a0 a1:dS) (b:Int) (c d:Ls) (K:Int→Prop):Prop:=
 (aB (decide (b>1000)) (K 4) (aB (decide ((((length c):Nat):Int)>40)) (K 4) (aB (decide (b<1)) (K 8) (aB (decide ((((length c):Nat):Int)<2)) (K 8) (aB ((((length d):Nat):Int) !=(i64.wrap ((((length c):Nat):Int)-1))) (K 8) (aA (decide (0<(((length c):Nat):Int))) (aA (aF zI (getD c 0 .nils)) (aB ((aK (getD c 0 .nils)) !=0) (K 8) (aA (decide (0≤(i64.wrap ((((length c):Nat):Int)-1)))) (aA (decide ((i64.wrap ((((length c):Nat):Int)-1))<(((length c):Nat):Int))) (aA (aF zI (getD c ((i64.wrap ((((length c):Nat):Int)-1)).toNat) .nils)) (aB ((aK (getD c ((i64.wrap ((((length c):Nat):Int)-1)).toNat) .nils)) !=b) (K 8) (∃ n:Nat,Di a0 a1 K (fun e f g h i j=>(a0 g (fun k=>(aB (decide (k<0)) (K 8) (a1 g (fun l=>(aB (decide (l>12)) (K 8) (a1 g (fun m=>(aB (m==0) (K 8) (K 0))))))))))) n b c d (i64.wrap ((((length c):Nat):Int)-1)) 0)))))))))))))
def yaE:fD:=OG Df Dh
def lI:jE:=lC vD yG
def kG:fH:=vA (lC cF lI)
def AT:jE:=lC kG lN
def sT:Sg:=⟨AT,Int→Prop,fun K=>(fun r0=>K (ic r0))⟩
def jt (Q:Qx):Int→Prop:=(fun b=>Q .ret [(2,.v (ic b))] [])
def ju (Q:Qx):Int→Ls→Ls→Int→Int→Bool→Prop:=(fun b c d e f g=>Q (.exit 0) [(1,.box (.agg [(ic b),(.data c),(.data d)])),(49,.v (ic e)),(50,.v (ic f)),(51,.v (.bool g))] [])
def WO (a0 a1:dS) (Q:Qx):List St:=[⟨(pS hN (fX 1 kG (fV 49 cF (fV 50 cF fN))) fN),Di a0 a1 (jt Q) (ju Q)⟩]
def WQ (a0 a1:dS):LP:=eQ [(87419700,WO a0 a1)]
def OH (e:Es) (a0 a1:dS):SE:=sE (E e) [(IF,iP.pw a0),(IG,iP.pw a1)] (WQ a0 a1)
theorem WR (e:Es) (he:EG e):SEOk (aZ (E e)) (OH e Df Dh):=bK (aQ.uni _) ⟨(jm e he),(js e he),trivial⟩ trivial he.ok
theorem jv (e:Es) (a0 a1):dF (OH e a0 a1) 5 a MO false (WO a0 a1):=fun _=>⟨fun _=>by kernel_rfl,fun _ _=>by kernel_rfl,trivial⟩
theorem jw (e:Es) (he:EG e):dG (aZ (E e)) (WQ Df Dh) [] 87419700 (.loop 87419700 MO):=fun _ _ _=>cJ.st (aQ.uni _) (cM (WR e he) 5) (cS.no _ _) (aW (by kernel_rfl)) (jv e _ _ _)
theorem jx (e:Es) (a0 a1):bR (OH e a0 a1) 6 MN sT (OG a0 a1):=fun _ _=>by kernel_rfl
theorem Dj (e:Es) (he:EG e):bP (E e) (sT.pw yaE) xT:=bT he (jx e _ _) (WR e he) bH.flat (dA (l:=[(87419700,.loop 87419700 MO)]) ⟨jw e he,trivial⟩ (by kernel_rfl))
abbrev cD:Type:=Int→(Int→Int→Prop)→Prop
def WS (b:Int) (K:Int→Int→Prop):Prop:=
 (K b 1)
def AU:cD:=WS
def jX:Sg:=⟨Jk,Int→Int→Prop,fun K=>(fun r0 r1=>K (.agg [(ic r0),(ic r1)]))⟩
def jy (e:Es):SE:=sE (E e) [] dJ
theorem jz (e:Es):bR (jy e) 6 VJ jX WS:=fun _ _=>by kernel_rfl
theorem WT (e:Es) (he:EG e):bP (E e) (jX.pw AU) FC:=bT he (jz e) (bK (aQ.uni _) trivial trivial he.ok) bH.flat (aW (by kernel_rfl))
abbrev bZ:Type:=J4 ((Bool→Prop)→Prop)
end Go.Pf.Vc
