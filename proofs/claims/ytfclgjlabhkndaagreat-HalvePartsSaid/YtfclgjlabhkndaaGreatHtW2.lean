/- Part 2. -/
import Derived.Test.YtfclgjlabhkndaaGreatHtW1
noncomputable section
namespace Go.Pf
open Go
def yDg (H:Hp) (esz:Nat) (lo hi mx:Option Int) (x:PV) (K:PV→Prop):Prop :=
 match x with
 | .nils=>asr (decide (lo.getD 0=0)&&(decide (hi.getD 0=0)&&decide (mx.getD 0=0))) (K .nils)
 | .emp=>asr (decide (lo.getD 0=0)&&(decide (hi.getD 0=0)&&decide (mx.getD 0=0))) (K .emp)
 | .data rows =>
  let h:=hi.getD rows.length
  let l:=lo.getD 0
  (match mx with
   | none=>asr (decide (0≤l)) (asr (decide (l≤h)) (asr (decide (h≤rows.length)) (asr (decide (l=0)||ydq esz rows) (K (.data ((rows.take h.toNat).drop l.toNat))))))
   | some m=>asr (decide (0≤l)) (asr (decide (l≤h)) (asr (decide (h≤m)) (asr (decide (m≤rows.length)) (asr (decide (l=0)||ydq esz rows)
      (cbr (decide (l=m)) (K .emp) (K (.data ((rows.take h.toNat).drop l.toNat)))))))))
 | .own id lo0 len ext cap =>
  let h:=hi.getD len
  let l:=lo.getD 0
  (match H[id]? with
   | some b=>asr (b.esz == esz)
    (match mx with
     | none=>asr (decide (0≤l)) (asr (decide (l≤h)) (asr (decide (h≤len)||decide (h≤yvt len cap)) (K (.own id (lo0+l.toNat) (h-l).toNat ext (cap.map fun c=>c-l.toNat)))))
     | some m=>asr (decide (0≤l)) (asr (decide (l≤h)) (asr (decide (h≤m)) (asr (decide (m≤len)||decide (m≤yvt len cap)) (K (.own id (lo0+l.toNat) (h-l).toNat ext (some (m-l).toNat)))))))
   | none=>False)
 | _=>False
def WRow (sh:Sh) (rows:List PV) (i:Nat) (K:PV→Prop):Prop :=
 match sh with
 | .raw=>(match rows[i]? with | some r=>K r | none=>False)
 | sh=>asr (decide (i<rows.length)) (asr (conf sh (rows.getD i .nils)) (K (expl sh (rows.getD i .nils))))
def yGo:List Cs→Bool
 | []=>true
 | .i _::r=>yGo r
 | _=>false
def shL (sh:Sh) (esz sz:Nat):Sh :=
 match sh with
 | .agg l=>bif !(Nat.beq esz sz)&&(Nat.beq l.length sz&&yGo l) then .raw else .agg l
 | x=>x
def yGp:List Cs→Bool
 | []=>false
 | .d::_=>true
 | _::r=>yGp r
def shW (sh:Sh) (pu:Bool):Sh :=
 match sh with
 | .agg l=>bif !pu&&yGp l then .raw else .agg l
 | x=>x
def WOp (E:Env) (callK:CK) (a:An) (F:Frm) (H:Hp) (o:AOp) (K:OK):Prop :=
 match o with
 | .pick c x y =>
  (match evV E F c with
   | some (.bool t)=>cbr t (match evV E F x with | some p=>wv H K p | none=>False) (match evV E F y with | some p=>wv H K p | none=>False)
   | _=>False)
 | .bin op x y =>
  (match evV E F x,evV E F y with
   | some (.int k p),some (.int k' q)=>WBin op k k' p q (wv H K)
   | _,_=>False)
 | .load agg sz x =>
  (match ev E F x with
   | some (.v (.ptr id ext i off)) =>
    (match H[id]? with
     | some b=>asr (decide (b.rows.length=ext)) (WRow (shW (shL a.sh b.esz sz) b.pu) b.rows i fun row=>match yeW agg sz row off with | some p=>wv H K p | none=>False)
     | none=>False)
   | _=>(match yar E yv6 F H (.load agg sz x) with | some ⟨x,bx,H'⟩=>K x bx H' | none=>False))
 | .store sz x y =>
  (match ev E F x with
   | some (.v (.ptr id ext i off)) =>
    (match evV E F y with
     | some p =>
       (match H[id]? with
        | some b0 =>
         yv7 b0.pu H p fun q H' =>
          (match H'[id]? with
           | some b=>asr (decide (b.rows.length=ext)) (asr (!b.fz) (WRow (shW a.sh b.pu) b.rows i fun row=>match yhy row off sz q with
            | some row'=>K none none (H'.set id { b with rows:=b.rows.set i row' })
            | none=>False))
           | none=>False)
        | none=>False)
     | none=>False)
   | _=>(match yar E yv6 F H (.store sz x y) with | some ⟨x,bx,H'⟩=>K x bx H' | none=>False))
 | .iad esz x i =>
  (match evV E F x,ye6 E F i with
   | some (.data rows),some n =>
    asr (decide (0≤n)) (asr (decide (n<rows.length)) (asr (conf a.sh (rows.getD n.toNat .nils)) (asr (decide ((expl a.sh (rows.getD n.toNat .nils)).cells.length=esz)) (wv H K (.eptr [expl a.sh (rows.getD n.toNat .nils)] 0 0)))))
   | some (.own id lo len ext _),some n =>
    (match H[id]? with
     | some b=>asr (decide (0≤n)) (asr (decide (n<len)) (asr (decide (b.esz=esz)) (wv H K (.ptr id ext (lo+n.toNat) 0))))
     | none=>False)
   | some (.sub id ext r off m e),some j=>asr (Nat.beq e esz) (ymM m j (fun k=>wv H K (.ptr id ext r (off+k*esz))) m)
   | _,_=>False)
 | .iadA n esz x i =>
  (match ev E F x,ye6 E F i with
   | some (.bp s o),some j=>ymM n j (fun k=>K (some (.bp s (o+k*esz))) none H) n
   | some (.v (.ptr id e r o)),some j=>ymM n j (fun k=>wv H K (.ptr id e r (o+k*esz))) n
   | some (.v (.eptr rows r o)),some j=>ymM n j (fun k=>wv H K (.eptr rows r (o+k*esz))) n
   | _,_=>False)
 | .idx agg n esz x i =>
  (match evV E F x,ye6 E F i with
   | some (.agg cs),some j=>(match x with
    | .c _=>WTab agg n esz cs j (wv H K)
    | _=>ymM n j (fun k=>match yeW agg esz (.agg cs) (k*esz) with | some p=>wv H K p | none=>False) n)
   | _,_=>False)
 | .slc esz x lo hi mx =>
  (match evV E F x,evO E F lo,evO E F hi,evO E F mx with
   | some p,some l,some h,some m=>(match (m.isSome&&h.isNone) with | true=>False | false=>yDg H esz l h m p (wv H K))
   | _,_,_,_=>False)
 | .mkSl pu esz bytes z l c =>
  (match ye6 E F l,ye6 E F c with
   | some l,some c=>asr (decide (0≤l)) (asr (decide (l≤c)) (asr (decide ((c.toNat+64)*(bytes+1)≤room))
      (K (some (.v (.own H.length 0 l.toNat c.toNat (some c.toNat)))) none (H++[⟨false,pu,esz,List.replicate c.toNat z⟩]))))
   | _,_=>False)
 | .app pu esz bytes s x =>
  (match evV E F s,evV E F x with
   | some s,some x=>yGn H x fun ys=>asr (ydq esz ys) (asr (yoy H pu x) (WApp a.md H pu esz bytes s ys fun r H'=>K (some (.v r)) none H'))
   | _,_=>False)
 | .appZ pu esz bytes z s n =>
  (match evV E F s,ye6 E F n with
   | some .nils,some k=>asr (decide (0≤k)) (cbr (decide (k.toNat=0)) (wv H K .nils) (ysK H pu esz bytes (List.replicate k.toNat z) fun r H'=>K (some (.v r)) none H'))
   | _,_=>False)
 | .eqN neg x =>
  (match evV E F x with
   | some .nils=>wv H K (.bool (bif neg then false else true))
   | some (.mt b)=>wv H K (.bool (bif neg then !b else b))
   | some (.data rows)=>asr (!rows.isEmpty) (wv H K (.bool neg))
   | some (.own _ _ _ _ _)=>wv H K (.bool neg)
   | _=>False)
 | .clr pu esz z x =>
  (match evV E F x with
   | some .nils=>wv H K (.tup [])
   | some .emp=>wv H K (.tup [])
   | some (.mt _)=>wv H K (.tup [])
   | some (.own id lo len ext _)=>(match H[id]? with
    | some b=>cbr (decide (len=0)) (wv H K (.tup [])) (asr (decide (b.rows.length=ext)) (asr (decide (lo+len≤ext)) (asr (!b.fz) (asr (b.pu == pu) (asr (Nat.beq b.esz esz) (K (some (.v (.tup []))) none (H.set id { b with rows:=b.rows.take lo++(List.replicate len z++b.rows.drop (lo+len)) })))))))
    | none=>False)
   | _=>False)
 | .boxH pu esz x =>
  (match evV E F x with
   | some p=>yv7 pu H p fun q H'=>asr (Nat.beq q.cells.length esz&&ycB q.cells) (K (some (.v (.ptr H'.length 1 0 0))) none (H'++[⟨false,pu,esz,[q]⟩]))
   | none=>False)
 | .bSl pu esz z len parts =>
  (match len with
   | 0=>wv H K .emp
   | len+1=>yyJ E F pu esz (List.replicate (len+1) z) H parts fun rows H'=>K (some (.v (.own H'.length 0 (len+1) (len+1) (some (len+1))))) none (H'++[⟨false,pu,esz,rows⟩]))
 | .buildN pu esz z len parts =>
  (match len with
   | 0=>wv H K .emp
   | len+1=>yyJ E F pu esz (List.replicate (len+1) z) H parts fun rows H'=>K (some (.v (.own H'.length 0 (len+1) (len+1) none))) none (H'++[⟨false,pu,esz,rows⟩]))
 | .bD esz z len parts =>
  (match len with
   | 0=>wv H K .emp
   | len+1=>yyJ E F true esz (List.replicate (len+1) z) H parts fun rows H'=>K (some (.v (.data rows))) none H')
 | .mvD x =>
  (match evV E F x with
   | some p=>yBG H p fun q H'=>(match q with | .data rows=>K (some (.v (.data rows))) none H' | _=>False)
   | none=>False)
 | .call f args =>
  (match evV E F f,evs E F args with
   | some g,some vs=>callK g vs H fun r H'=>K (some (.v r)) none H'
   | _,_=>False)
 | o=>(match yar E yv6 F H o with | some ⟨x,bx,H'⟩=>K x bx H' | none=>False)
def frep:Frm→Nat→FV→Frm
 | [],_,_=>[]
 | (k,y)::r,s,x=>bif Nat.beq k s then (k,x)::r else (k,y)::frep r s x
def yzv (F:Frm) (g:Option (Nat×Bool)) (yes no:Frm→Prop):Prop :=
 match g with
 | none=>yes F
 | some (s,want)=>(match fget F s with
  | some (.v (.bool b))=>(match want with
   | true=>cbr b (yes (frep F s (.v (.bool true)))) (no (frep F s (.v (.bool false))))
   | false=>cbr b (no (frep F s (.v (.bool true)))) (yes (frep F s (.v (.bool false)))))
  | some (.v (.tup []))=>no F
  | _=>False)
def fref (F:Frm) (c:Opd) (b:Bool):Frm :=
 match c with
 | .t s=>frep F s (.v (.bool b))
 | _=>F
def yn5 (F:Frm):Option Nat→Frm
 | some d=>fset F d (.v (.tup []))
 | none=>F
def frcP (p:PV) (K:PV→Prop):Prop :=
 match p with
 | .bool b=>K (.bool b)
 | .int k n=>K (.int k n)
 | .agg cs=>K (.agg cs)
 | .data r=>K (.data r)
 | .own a b c d e=>K (.own a b c d e)
 | .ptr a b c d=>K (.ptr a b c d)
 | .sub a b c d e f=>K (.sub a b c d e f)
 | p=>K p
def frcL:List PV→(List PV→Prop)→Prop
 | [],K=>K []
 | x::r,K=>frcP x fun x=>frcL r fun r=>K (x::r)
def frcA (p:PV) (K:PV→Prop):Prop :=
 match p with
 | .agg cs=>frcL cs fun cs=>K (.agg cs)
 | .tup cs=>frcL cs fun cs=>K (.tup cs)
 | p=>frcP p K
def frcV (x:FV) (K:FV→Prop):Prop :=
 match x with
 | .v p=>frcA p fun p=>K (.v p)
 | .box p=>frcA p fun p=>K (.box p)
 | .bp s o=>K (.bp s o)
def frcF:Frm→(Frm→Prop)→Prop
 | [],K=>K []
 | (k,x)::r,K=>frcV x fun x=>frcF r fun r=>K ((k,x)::r)
def frcB (b:Bool) (K:Bool→Prop):Prop:=match b with | true=>K true | false=>K false
def frcH:Hp→(Hp→Prop)→Prop
 | [],K=>K []
 | ⟨fz,pu,esz,rows⟩::r,K=>frcB fz fun fz=>frcB pu fun pu=>frcH r fun r=>K (⟨fz,pu,esz,rows⟩::r)
theorem yEt (p:PV) (K:PV→Prop):frcP p K=K p:=by cases p <;> rfl
theorem yEu:∀ (l:List PV) (K:List PV→Prop),frcL l K=K l
 | [],_=>rfl
 | x::r,K=>by simp only [frcL,yEt,yEu r]
theorem yHG (p:PV) (K:PV→Prop):frcA p K=K p:=by cases p <;> simp only [frcA,yEu,yEt]
theorem yHH (x:FV) (K:FV→Prop):frcV x K=K x:=by cases x <;> simp only [frcV,yHG]
theorem yEv:∀ (F:Frm) (K:Frm→Prop),frcF F K=K F
 | [],_=>rfl
 | (k,x)::r,K=>by simp only [frcF,yHH,yEv r]
theorem yHI (b:Bool) (K:Bool→Prop):frcB b K=K b:=by cases b <;> rfl
theorem yEw:∀ (H:Hp) (K:Hp→Prop),frcH H K=K H
 | [],_=>rfl
 | ⟨fz,pu,esz,rows⟩::r,K=>by simp only [frcH,yHI,yEw r]
def frc (F:Frm) (H:Hp) (K:Frm→Hp→Prop):Prop:=frcF F fun F=>frcH H fun H=>K F H
theorem yzw (F:Frm) (H:Hp) (K:Frm→Hp→Prop):frc F H K=K F H:=by simp only [frc,yEv,yEw]
def WOps (E:Env) (callK:CK) (an:List An):List AO→Nat→Frm→Hp→(Frm→Hp→Prop)→Prop
 | [],_,F,H,K=>K F H
 | o::r,i,F,H,K =>
  yzv F o.guard
   (fun F=>WOp E callK (anOf an i) F H o.op fun x bx H'=>match ydr (yeV F bx) o.dst x with
    | none=>False
    | some F'=>frc F' H' fun F' H'=>WOps E callK an r (i+1) F' H' K)
   (fun F=>WOps E callK an r (i+1) (yn5 F o.dst) H K)
def yGq (E:Env) (F:Frm) (f:Opd) (az:List Opd):Option (List Nat) :=
 match evV E F f,evs E F az with
 | some g,some vs=>(match yoz E g vs with
  | some x=>some (x.id::idsA (x.all.set x.j (.int .i64 0)))
  | none=>(match g with
   | .fn (.func n) first captured=>bif E.qui n then some (idsA (first++vs++captured)) else none
   | _=>none))
 | _,_=>none
def ytW (E:Env) (F:Frm) (H:Hp) (o:AOp):FP :=
 match o with
 | .call f az=>bif yd2 E F f az then fpOp E F H (.call f az) else (match yGq E F f az with | some l=>⟨f.slots++ymE az,[],List.range H.length,l,true,false⟩ | none=>fpOp E F H (.call f az))
 | o=>fpOp E F H o
def yEx (E:Env) (F:Frm) (H:Hp) (o:AO):FP :=
 let p:=ytW E F H o.op;⟨ysz o.guard++p.rd,o.dst.toList++p.wr,p.hr,p.hw,p.push,p.all⟩
def fpNo (o:AO):FP:=⟨ysz o.guard,o.dst.toList,[],[],false,false⟩
def WFps (E:Env) (callK:CK) (an:List An) (F0:Frm) (l0:List AO) (pairs:List (Nat×Nat)):List AO→Nat→Frm→Hp→List FP→(Frm→Hp→Prop)→Prop
 | [],_,F,H,ps,K=>asr (yh5 ps.reverse pairs&&ynU F0 l0 l0) (K F H)
 | o::r,i,F,H,ps,K =>
  yzv F o.guard
   (fun F=>WOp E callK (anOf an i) F H o.op fun x bx H'=>match yfR (yeV F bx) o.dst x with
    | none=>False
    | some F'=>frc F' H' fun F' H'=>WFps E callK an F0 l0 pairs r (i+1) F' H' (yEx E F H o::ps) K)
   (fun F=>WFps E callK an F0 l0 pairs r (i+1) (yn5 F o.dst) H (fpNo o::ps) K)
abbrev LP:=Nat→Frm→Frm→Hp→(Ex→Frm→Hp→Prop)→Prop
abbrev YK:=List PV→Hp→(Option Nat→Hp→Prop)→Prop
def noYK:YK:=fun _ _ _=>False
def WC (E:Env) (callK:CK) (lp:LP):Frm→YK→TC→Frm→Hp→(Ex→Frm→Hp→Prop)→Prop
 | _,_,.skip,F,H,Q=>Q .norm F H
 | _,_,.ops l an [] fg,F,H,Q=>WOps E callK an l 0 F H fun F' H'=>frc (fdels F' fg) H' fun F' H'=>Q .norm F' H'
 | _,_,.ops l an (p::ps) fg,F,H,Q=>WFps E callK an (ykT F l) l (p::ps) l 0 (ykT F l) H [] fun F' H'=>frc (fdels F' fg) H' fun F' H'=>Q .norm F' H'
 | G,yk,.seq a b,F,H,Q=>WC E callK lp G yk a F H fun x F' H'=>match x with
  | .norm=>WC E callK lp G yk b F' H' Q
  | .exit i=>Q (.exit i) F' H'
  | .ret=>Q .ret F' H'
  | .brk k i=>Q (.brk k i) F' H'
 | G,yk,.cond c a b,F,H,Q=>(match evV E F c with
  | some (.bool t)=>cbr t (WC E callK lp G yk a (fref F c true) H Q) (WC E callK lp G yk b (fref F c false) H Q)
  | _=>False)
 | G,yk,.block id b,F,H,Q=>WC E callK lp G yk b F H fun x F' H'=>match x with
  | .norm=>Q .norm F' H'
  | .exit i=>(bif Nat.beq i id then Q .norm F' H' else Q (.exit i) F' H')
  | .ret=>Q .ret F' H'
  | .brk k i=>Q (.brk k i) F' H'
 | G,_,.loop id _,F,H,Q=>lp id G F H Q
 | G,_,.lG id _,F,H,Q=>lp id G F H Q
 | G,_,.join id _,F,H,Q=>lp id G F H Q
 | _,_,.exit id,F,H,Q=>Q (.exit id) F H
 | _,_,.ret,F,H,Q=>Q .ret F H
 | _,_,.bad,_,_,_=>False
 | _,_,.cut _,_,_,_=>False
 | _,_,.rangeF _ _ _ _ _ _ _,_,_,_=>False
 | _,_,.yret _ _ _ _ _ _ _,_,_,_=>False
abbrev Qx:Type:=Ex→Frm→Hp→Prop
abbrev exQ (R:Frm→Hp→Prop) (Q:Qx):Qx:=fun x F' H'=>match x with | .norm=>R F' H' | .exit i=>Q (.exit i) F' H' | .ret=>Q .ret F' H' | .brk k i=>Q (.brk k i) F' H'
def WFn (E:Env) (callK:CK) (lp:LP) (fn:TFn) (args:List PV) (H:Hp) (K:PV→Hp→Prop):Prop :=
 asr (decide (args.length=fn.nparams)) (WC E callK lp [] noYK fn.body (yjK 0 args) H fun x F' H'=>match x with
  | .exit _ | .brk _ _=>False
  | .norm | .ret=>(match yh6 F' H' fn.results with | some ps=>K (yh7 ps) H' | none=>False))
structure SE where
 E:Env
 sumK:Nat→Option (List PV→(PV→Prop)→Prop)
 inl:Nat→Option TFn
 lp:LP
 sumL:Nat→Option (List PV→HB→(PV→List PV→Prop)→Prop)
def WLoc (wp:List PV→HB→(PV→List PV→Prop)→Prop) (x:LocC) (H:Hp) (K:PV→Hp→Prop):Prop :=
 yyI H (x.all.set x.j (.int .i64 0)) fun az H'=>match H'[x.id]? with
  | some b=>asr (!b.fz&&b.pu) (wp (az.set x.j x.y) b fun q rows=>K q (H'.set x.id { b with rows:=rows }))
  | none=>False
def ytX (S:SE):Nat→CK
 | 0,_,_,_,_=>False
 | d+1,f,args,H,K =>
  match f with
  | .fn (.func n) first captured =>
   (match yoz S.E f args with
   | some x=>(match S.sumL x.n with | some wp=>WLoc wp x H K | none=>False)
   | none =>
   match S.sumK n with
    | some wp=>(bif S.E.rb n then yzu (iceH H) (first++args++captured) fun az=>wp az fun r=>asr r.scalar (K r H)
     else yyI H (first++args++captured) fun az H'=>wp az fun r=>K r (bif r.scalar then H else H'))
    | none=>(match S.inl n with
     | some fn=>(bif S.E.rb n then False else WFn S.E (ytX S d) S.lp fn (first++args++captured) H K)
     | none=>(match S.E.eff n (first++args++captured) H with
      | some (c,t,x,y)=>asr c (cbr t (K x.1 x.2) (K y.1 y.2))
      | none=>False)))
  | _=>False
@[irreducible] def WP (S:SE) (d:Nat) (fn:TFn) (args:List PV) (K:PV→Prop):Prop :=
 WFn S.E (ytX S d) S.lp fn args [] fun r H=>yEr H r K
abbrev EP:=Nat→Env→Prop
def Like (E e:Env):Prop:=e={ E with yn:=e.yn,ctx:=e.ctx,yl:=e.yl }
def Uni (E:Env):EP:=fun _ e=>Like E e
def Solo (E:Env):EP:=fun _ e=>e=E
def Ats (E:Env):EP:=fun _ e=>e=E.ats (E.yn+1)
def Sub (P:EP) (E:Env):Prop:=∀ n e,P n e→Like E e
theorem Sub.uni (E:Env):Sub (Uni E) E:=fun _ _ h=>h
def hnd (E:Env) (G:Frm) (ps:List Nat) (az bd:AC) (n:Nat):Nat→List PV→Hp→Option (Option Nat×Hp):=fun y vs H=>(match yIh G ps vs with
 | some F1=>(match exec (E.ats y) n az F1 H with
  | some (.norm,F2,H2)=>(match exec (E.ats y) n bd F2 H2 with
   | some (.norm,_,H3)=>some (none,H3)
   | some (.exit i,_,H3)=>some (some i,H3)
   | _=>none)
  | _=>none)
 | none=>none)
def Rng (E:Env) (G:Frm) (ps:List Nat) (az bd:AC):EP:=fun n e=>e=E.push ⟨G,ps,az,bd⟩ (hnd E G ps az bd n)
def Good (P:EP) (callK:CK):Prop :=
 ∀ f args H K,callK f args H K→∃ r H',K r H'∧∃ m0,∀ n e m,m0≤n→P n e→m0≤m→yiP e (ybV e m) f args H=some (r,H')
section
variable {E:Env} {y:Nat} {cx:Nat→Option LCtx} {yl:Nat→Nat→List PV→Hp→Option (Option Nat×Hp)}
theorem yvc (F:Frm) (x:Opd):ev { E with yn:=y,ctx:=cx,yl:=yl } F x=ev E F x:=by cases x <;> rfl
theorem yfW (F:Frm) (x:Opd):evV { E with yn:=y,ctx:=cx,yl:=yl } F x=evV E F x:=by simp only [evV,yvc]
theorem ymN (F:Frm):∀ l:List Opd,evs { E with yn:=y,ctx:=cx,yl:=yl } F l=evs E F l
 | []=>rfl
 | x::r=>by simp only [evs,yfW,ymN F r]
theorem yv8 (F:Frm) (x:Opd):ye6 { E with yn:=y,ctx:=cx,yl:=yl } F x=ye6 E F x:=by simp only [ye6,yfW]
theorem yGr (F:Frm) (x:Option Opd):evO { E with yn:=y,ctx:=cx,yl:=yl } F x=evO E F x:=by cases x <;> simp only [evO,yv8]
theorem yv9 (F:Frm):∀ (l:List (Nat×Nat×Opd)) (cs:List PV),yiO { E with yn:=y,ctx:=cx,yl:=yl } F cs l=yiO E F cs l
 | [],_=>rfl
 | (_,_,x)::r,cs=>by simp only [yiO,yfW,yv9 F r]
theorem ywa (F:Frm) (pu:Bool) (esz:Nat):∀ (l:List (Nat×Opd)) (rows:List PV) (H:Hp),yfQ { E with yn:=y,ctx:=cx,yl:=yl } F pu esz rows H l=yfQ E F pu esz rows H l
 | [],_,_=>rfl
 | (_,x)::r,rows,H=>by simp only [yfQ,yfW,ywa F pu esz r]
theorem ytY (F:Frm) (x:Opd):yds { E with yn:=y,ctx:=cx,yl:=yl } F x=yds E F x:=by simp only [yds,yvc]
theorem yDh (F:Frm) (x:Opd):yl7 { E with yn:=y,ctx:=cx,yl:=yl } F x=yl7 E F x:=by simp only [yl7,yvc]
theorem yoK (F:Frm):∀ l:List (Nat×Opd),ycA { E with yn:=y,ctx:=cx,yl:=yl } F l=ycA E F l
 | []=>rfl
 | (_,x)::r=>by simp only [ycA,ytY,yoK F r]
theorem ywb (F:Frm) (f:Opd) (az:List Opd):yd2 { E with yn:=y,ctx:=cx,yl:=yl } F f az=yd2 E F f az:=by simp only [yd2,yfW,ymN]
theorem yFi (F:Frm) (H:Hp) (o:AOp):fpOp { E with yn:=y,ctx:=cx,yl:=yl } F H o=fpOp E F H o:=by
 cases o <;> simp only [fpOp,ytY,yDh,yoK,ywb]
theorem yDi {F:Frm} {H:Hp} {o:AOp} (h:ygw o=false) (c1 c2:Nat→List PV→Hp→Option (PV×Hp)):yar { E with yn:=y,ctx:=cx,yl:=yl } c1 F H o=yar E c2 F H o:=by
 cases o <;> first | (simp [ygw] at h;done) | simp only [yar,yvc,yfW,ymN,yv8,yGr,yv9,ywa]
end
def yEy (E:Env) (F:Frm) (H:Hp) (o:AOp) (K:OK):Prop :=
 ∃ out:Out,K out.x out.bx out.h∧∃ m0,∀ m,m0≤m→yar E (ybV E m) F H o=some out
def yIN (P:EP) (F:Frm) (H:Hp) (o:AOp) (K:OK):Prop :=
 ∃ out:Out,K out.x out.bx out.h∧∃ m0,∀ n e m,m0≤n→P n e→m0≤m→yar e (ybV e m) F H o=some out
section
variable {E:Env} {callK:CK} {F:Frm} {H:Hp} {K:OK}
theorem yBI {o:AOp} (h:ygw o=false) (c1 c2:Nat→List PV→Hp→Option (PV×Hp)):yar E c1 F H o=yar E c2 F H o:=by
 cases o <;> first | rfl | simp [ygw] at h
theorem ywc {o:AOp} (hc:ygw o=false) (h:match yar E yv6 F H o with | some ⟨x,bx,H'⟩=>K x bx H' | none=>False):yEy E F H o K:=by
 split at h
 ·rename_i x bx H' he
  exact ⟨⟨x,bx,H'⟩,h,0,fun m _=>by rw [yBI hc (ybV E m) yv6,he]⟩
 ·exact h.elim
theorem ywd {H:Hp} {x:PV} {K:PV→Hp→Prop} (h:yBG H x K):∃ y H',K y H'∧yec H x=some (y,H'):=by
 unfold yBG at h
 split at h
 ·exact ⟨_,_,h,rfl⟩
 ·exact ⟨_,_,h,rfl⟩
 ·exact ⟨_,_,h,rfl⟩
 ·exact ⟨_,_,h,rfl⟩
 ·exact ⟨_,_,h,rfl⟩
 ·split at h
  ·rename_i b hb
   obtain ⟨h1,h⟩:=yat.1 h
   obtain ⟨h2,h⟩:=yat.1 h
   obtain ⟨h3,h⟩:=yat.1 h
   exact ⟨_,_,h,by simp only [yec,hb];rw [if_pos ⟨by simpa using h1,by simpa using h2,h3⟩]⟩
  ·exact h.elim
 ·exact h.elim
theorem yBJ:∀ (l:List PV) (H:Hp) (K:List PV→Hp→Prop),yEq H l K→∃ ys H',K ys H'∧ydi H l=some (ys,H')
 | [],H,K,h=>⟨_,_,h,rfl⟩
 | x::r,H,K,h=>by
  simp only [yEq] at h
  obtain ⟨y,H1,h,e1⟩:=ywd h
  obtain ⟨ys,H2,h,e2⟩:=yBJ r H1 _ h
  exact ⟨_,_,h,by simp only [ydi,e1,e2]⟩
theorem ymO {H:Hp} {x:PV} {K:PV→Hp→Prop} (h:yqR H x K):∃ y H',K y H'∧ybI H x=some (y,H'):=by
 cases x with
 | agg cs =>
  simp only [yqR] at h
  obtain ⟨ys,H',h,e⟩:=yBJ cs H _ h
  exact ⟨_,_,h,by simp only [ybI,e,Option.map]⟩
 | _ =>
  simp only [yqR] at h
  obtain ⟨y,H',h,e⟩:=ywd h
  exact ⟨_,_,h,by simp only [ybI,e]⟩
theorem yqS:∀ (l:List PV) (H:Hp) (K:List PV→Hp→Prop),yyI H l K→∃ ys H',K ys H'∧yaR H l=some (ys,H')
 | [],H,K,h=>⟨_,_,h,rfl⟩
 | x::r,H,K,h=>by
  simp only [yyI] at h
  obtain ⟨y,H1,h,e1⟩:=ymO h
  obtain ⟨ys,H2,h,e2⟩:=yqS r H1 _ h
  exact ⟨_,_,h,by simp only [yaR,e1,e2]⟩
theorem yGs {H:Hp} {x:PV} {K:PV→Prop} (h:yEs H x K):∃ y,K y∧purP H x=some y:=by
 have base:∀ {x:PV},yqR H x (fun q _=>K q)→∃ y,K y∧(match ybI H x with | some (q,_)=>some q | none=>none)=some y:=fun h=>by
  obtain ⟨y,H',h,e⟩:=ymO h
  exact ⟨y,h,by simp only [e]⟩
 cases x with
 | ptr id ext i off =>
  simp only [yEs] at h
  split at h
  ·rename_i b hb
   obtain ⟨h1,h⟩:=yat.1 h
   split at h
   ·rename_i row hrow
    obtain ⟨y,H',h,e⟩:=ymO h
    exact ⟨_,h,by simp only [purP,hb,hrow,e];rw [if_pos (by simpa using h1)]⟩
   ·exact h.elim
  ·exact h.elim
 | eptr rows i off=>exact ⟨_,h,rfl⟩
 | _=>simp only [yEs] at h;exact base h
theorem yyK {H:Hp}:∀ (l:List PV) (K:List PV→Prop),yzu H l K→∃ ys,K ys∧yvu H l=some ys
 | [],K,h=>⟨_,h,rfl⟩
 | x::r,K,h=>by
  simp only [yzu] at h
  obtain ⟨y,h,e1⟩:=yGs h
  obtain ⟨ys,h,e2⟩:=yyK r _ h
  exact ⟨_,h,by simp only [yvu,e1,e2]⟩
theorem yGt {H:Hp} {x:PV} {K:PV→Prop} (h:yEr H x K):∃ q,K q∧purR H x=some q:=by
 cases x with
 | tup ps =>
  simp only [yEr] at h
  obtain ⟨ys,H',h,e⟩:=yqS ps H _ h
  exact ⟨_,h,by simp only [purR,e]⟩
 | _ =>
  simp only [yEr] at h
  obtain ⟨y,H',h,e⟩:=ymO h
  exact ⟨_,h,by simp only [purR,e]⟩
theorem ysL {pu:Bool} {H:Hp} {x:PV} {K:PV→Hp→Prop} (h:yv7 pu H x K):∃ y H',K y H'∧(if pu then ybI H x else some (x,H))=some (y,H'):=by
 cases pu with
 | true=>simp only [yv7] at h;obtain ⟨y,H',h,e⟩:=ymO h;exact ⟨y,H',h,by simpa using e⟩
 | false=>exact ⟨_,_,h,by simp⟩
theorem yqT {pu:Bool} {esz:Nat}:∀ (l:List (Nat×Opd)) (rows:List PV) (H:Hp) (K:List PV→Hp→Prop),yyJ E F pu esz rows H l K →
  ∃ rows' H',K rows' H'∧yfQ E F pu esz rows H l=some (rows',H')
 | [],rows,H,K,h=>⟨_,_,h,rfl⟩
 | (i,x)::r,rows,H,K,h=>by
  simp only [yyJ] at h
  split at h
  ·rename_i p hp
   obtain ⟨q,H',h,e⟩:=ysL h
   obtain ⟨h1,h⟩:=yat.1 h
   simp only [qAf] at h1
   obtain ⟨rows',H2,h,e2⟩:=yqT r _ H' K h
   refine ⟨rows',H2,h,?_⟩
   simp only [yfQ,hp,e]
   rw [if_pos ⟨qAn h1.1.1,(show i+1≤rows.length from qCb h1.1.2),h1.2⟩]
   exact e2
  ·exact h.elim
theorem yHJ {op:BinOp} {k k':IntKind} {a b:Int} {K:PV→Prop} (h:WBin op k k' a b K):∃ r,K r∧binV op (.int k a) (.int k' b)=some r:=by
 cases op <;> simp only [WBin] at h
 case quo =>
  obtain ⟨h1,h2⟩:=yat.1 h
  obtain ⟨h3,h4⟩:=yat.1 h2
  have e1:k=k':=by simpa using h1
  have e2:¬b=0:=by simpa using h3
  exact ⟨_,h4,by simp [binV,e1,binI,e2]⟩
 case rem =>
  obtain ⟨h1,h2⟩:=yat.1 h
  obtain ⟨h3,h4⟩:=yat.1 h2
  have e1:k=k':=by simpa using h1
  have e2:¬b=0:=by simpa using h3
  exact ⟨_,h4,by simp [binV,e1,binI,e2]⟩
 case shl =>
  obtain ⟨h1,h2⟩:=yat.1 h
  have e1:¬b<0:=by simpa using h1
  exact ⟨_,h2,by simp only [binV,ysw,e1,if_false]⟩
 case shr =>
  obtain ⟨h1,h2⟩:=yat.1 h
  have e1:¬b<0:=by simpa using h1
  exact ⟨_,h2,by simp only [binV,ysw,e1,if_false]⟩
 all_goals
  obtain ⟨h1,h2⟩:=yat.1 h
  have e1:k=k':=by simpa using h1
  split at h2
  ·rename_i r hr
   exact ⟨r,h2,by simp only [binV,e1,if_true];rw [← e1];exact hr⟩
  ·exact h2.elim
theorem yhY {n:Nat} {j:Int} {K:Nat→Prop}:∀ m,m≤n→ymM n j K m→∃ k:Nat,K k∧j=(k:Int)∧k<n
 | 0,_,h=>h.elim
 | m+1,hm,h=>by
  simp only [ymM] at h
  obtain ⟨h1,h2⟩:=yeI.1 h
  by_cases hj:j=((n-(m+1):Nat):Int)
  ·exact ⟨_,h1 (by simpa using hj),hj,by omega⟩
  ·exact yhY m (by omega) (h2 (by simpa using hj))
theorem yyL:∀ (cs:List PV) (i:Nat),yBH cs=true→i<cs.length→cs[i]?=some (.int .u8 (yaa (cs.getD i .nils)))
 | [],i,_,h=>by simp at h
 | x::r,i,hu,hi=>by
  cases x with
  | int k n =>
   cases k <;> simp only [yBH,qAr] at hu
   cases i with
   | zero=>simp [yaa]
   | succ i=>have:=yyL r i hu (by simpa using hi);simpa using this
  | _=>simp [yBH] at hu
theorem yGu {x:PV} {K:List PV→Prop} (h:yGn H x K):∃ ys,K ys∧ygr H x=some ys:=by
 unfold yGn at h
 split at h
 ·exact ⟨_,h,rfl⟩
 ·exact ⟨_,h,rfl⟩
 ·exact ⟨_,h,rfl⟩
 ·split at h
  ·rename_i b hb
   obtain ⟨h1,h2⟩:=yat.1 h
   obtain ⟨h3,h4⟩:=yat.1 h2
   exact ⟨_,h4,by simp only [ygr,hb];rw [if_pos ⟨by simpa using h1,by simpa using h3⟩]⟩
  ·exact h.elim
 ·exact h.elim
theorem yn6 {pu:Bool} {esz bytes:Nat} {rows:List PV} {K:PV→Hp→Prop} (h:ysK H pu esz bytes rows K):∃ r H',K r H'∧ycz H pu esz bytes rows=some (r,H'):=by
 obtain ⟨h1,h2⟩:=yat.1 h
 exact ⟨_,_,h2,by simp only [ycz];rw [if_pos (by simpa using h1)]⟩
def appS (H:Hp) (pu:Bool) (esz bytes:Nat) (ys:List PV):PV→Option (PV×Hp)
 | .nils=>if ys.isEmpty then some (.nils,H) else ycz H pu esz bytes ys
 | .emp=>if ys.isEmpty then some (.emp,H) else ycz H pu esz bytes ys
 | .own id lo len ext cap =>
  (match H[id]? with
   | some b=>if b.rows.length=ext∧b.pu=pu∧b.esz=esz∧lo+len≤ext then
    (if ys.isEmpty then some (.own id lo len ext cap,H) else yeX H pu esz bytes ys id lo len ext cap b) else none
   | none=>none)
 | _=>none
theorem yHK {md:Nat} {pu:Bool} {esz bytes:Nat} {s x:PV} {ys:List PV} {K:PV→Hp→Prop} (hy:ygr H x=some ys) (hh:ydq esz ys=true) (hs:yoy H pu x=true) (h:WApp md H pu esz bytes s ys K) :
  ∃ r H',K r H'∧appV H pu esz bytes s x=some (r,H'):=by
 have e0:appV H pu esz bytes s x=appS H pu esz bytes ys s:=by
  simp only [appV,hy];rw [if_pos ⟨hh,hs⟩];cases s <;> rfl
 rw [e0]
 clear e0 hy hs
 unfold WApp at h
 split at h
 ·obtain ⟨h1,h2⟩:=yeI.1 h
  cases hE:ys.isEmpty with
  | true=>exact ⟨_,_,h1 hE,by simp [appS,hE]⟩
  | false =>
   obtain ⟨r,H',hk,hf⟩:=yn6 (h2 hE)
   exact ⟨r,H',hk,by simp [appS,hE,hf]⟩
 ·obtain ⟨h1,h2⟩:=yeI.1 h
  cases hE:ys.isEmpty with
  | true=>exact ⟨_,_,h1 hE,by simp [appS,hE]⟩
  | false =>
   obtain ⟨r,H',hk,hf⟩:=yn6 (h2 hE)
   exact ⟨r,H',hk,by simp [appS,hE,hf]⟩
 ·rename_i id lo len ext cap
  split at h
  ·rename_i b hb
   obtain ⟨h1,h⟩:=yat.1 h
   obtain ⟨h2,h⟩:=yat.1 h
   obtain ⟨h3,h⟩:=yat.1 h
   simp only [qAf,decide_eq_true_eq] at h1 h2 h3
   obtain ⟨k1,k2⟩:=yeI.1 h
   have hc:b.rows.length=ext∧b.pu=pu∧b.esz=esz∧lo+len≤ext:=⟨h1,h2.1,h2.2,h3⟩
   cases hE:ys.isEmpty with
   | true=>exact ⟨_,_,k1 hE,by simp only [appS,hb];rw [if_pos hc];simp [hE]⟩
   | false =>
    have h:=k2 hE
    suffices ∃ r H',K r H'∧yeX H pu esz bytes ys id lo len ext cap b=some (r,H') by
     obtain ⟨r,H',hk,hf⟩:=this
     exact ⟨r,H',hk,by simp only [appS,hb];rw [if_pos hc];simp [hE,hf]⟩
    cases cap with
    | some c =>
     simp only at h
     have key1:decide (len+ys.length≤c)=true→asr (!b.fz) (K (.own id lo (len+ys.length) ext (some c)) (H.set id { b with rows:=b.rows.take (lo+len)++(ys++b.rows.drop (lo+len+ys.length)) })) →
       ∃ r H',K r H'∧yeX H pu esz bytes ys id lo len ext (some c) b=some (r,H'):=by
      intro e1 e2
      obtain ⟨e3,e4⟩:=yat.1 e2
      refine ⟨_,_,e4,?_⟩
      simp only [yeX]
      rw [if_pos (by simpa using e1),if_pos (by simpa using e3)]
     have key2:decide (len+ys.length≤c)=false→ysK H pu esz bytes ((b.rows.drop lo).take len++ys) K →
       ∃ r H',K r H'∧yeX H pu esz bytes ys id lo len ext (some c) b=some (r,H'):=by
      intro e1 e2
      obtain ⟨r,H',hk,hf⟩:=yn6 e2
      refine ⟨r,H',hk,?_⟩
      simp only [yeX]
      rw [if_neg (by simpa using e1)]
      exact hf
     split at h
     ·obtain ⟨a1,a2⟩:=yeI.1 h
      cases hd:decide (len+ys.length≤c) with
      | true=>exact key1 hd (a1 hd)
      | false=>exact key2 hd (a2 hd)
     ·obtain ⟨a1,a2⟩:=yeI.1 h
      cases hd:decide (len+ys.length≤c) with
      | true=>exact key1 hd (a1 hd)
      | false=>exact key2 hd (a2 hd)
     ·obtain ⟨a1,a2⟩:=yat.1 h;exact key2 (by simpa using a1) a2
     ·obtain ⟨a1,a2⟩:=yat.1 h;exact key1 a1 a2
    | none =>
     simp only at h
     obtain ⟨hfz,h⟩:=yat.1 h
     have hfz':¬b.fz=true:=by simpa using hfz
     have key1:decide (lo+len+ys.length≤ext)=true→K (.own id lo (len+ys.length) ext none) (H.set id { b with rows:=b.rows.take (lo+len)++(ys++b.rows.drop (lo+len+ys.length)) }) →
       ∃ r H',K r H'∧yeX H pu esz bytes ys id lo len ext none b=some (r,H'):=by
      intro e1 e2
      refine ⟨_,_,e2,?_⟩
      simp only [yeX]
      rw [if_neg hfz',if_pos (by simpa using e1)]
     have key3:decide (lo+len+ys.length≤ext)=false→asr (decide (lo=0)) (asr (decide (len=ext)) (asr (decide ((ext+ys.length+64)*(bytes+1)≤room))
        (K (.own id 0 (b.rows++ys).length (b.rows++ys).length none) (H.set id { b with rows:=b.rows++ys })))) →
       ∃ r H',K r H'∧yeX H pu esz bytes ys id lo len ext none b=some (r,H'):=by
      intro e1 e2
      obtain ⟨e3,e2⟩:=yat.1 e2
      obtain ⟨e4,e2⟩:=yat.1 e2
      obtain ⟨e5,e2⟩:=yat.1 e2
      simp only [decide_eq_true_eq] at e3 e4 e5
      refine ⟨_,_,e2,?_⟩
      simp only [yeX]
      rw [if_neg hfz',if_neg (by simpa using e1),if_pos ⟨e3,by omega,by rw [e4];exact e5⟩]
      have e6:b.rows.take len=b.rows:=qAz (by omega)
      have e7:(b.rows++ys).length=len+ys.length:=by rw [qAb,h1,e4]
      rw [e6,e7]
     have key4:decide (lo+len+ys.length≤ext)=false→asr (decide (lo=0)) (asr (decide (len≤ext)) (asr (decide ((len+ys.length+64)*(bytes+1)≤room))
        (K (.own id 0 (len+ys.length) (len+ys.length) none) (H.set id { b with rows:=b.rows.take len++ys })))) →
       ∃ r H',K r H'∧yeX H pu esz bytes ys id lo len ext none b=some (r,H'):=by
      intro e1 e2
      obtain ⟨e3,e2⟩:=yat.1 e2
      obtain ⟨e4,e2⟩:=yat.1 e2
      obtain ⟨e5,e2⟩:=yat.1 e2
      simp only [decide_eq_true_eq] at e3 e4 e5
      refine ⟨_,_,e2,?_⟩
      simp only [yeX]
      rw [if_neg hfz',if_neg (by simpa using e1),if_pos ⟨e3,e4,e5⟩]
     split at h
     ·obtain ⟨a1,a2⟩:=yeI.1 h
      cases hd:decide (lo+len+ys.length≤ext) with
      | true=>exact key1 hd (a1 hd)
      | false=>exact key3 hd (a2 hd)
     ·obtain ⟨a1,a2⟩:=yeI.1 h
      cases hd:decide (lo+len+ys.length≤ext) with
      | true=>exact key1 hd (a1 hd)
      | false=>exact key4 hd (a2 hd)
     ·obtain ⟨a1,a2⟩:=yat.1 h;exact key1 a1 a2
     ·obtain ⟨a1,a2⟩:=yat.1 h;exact key3 (by simpa using a1) a2
  ·exact h.elim
 ·exact h.elim
theorem yFj {esz:Nat} {lo hi mx:Option Int} {x:PV} {K:PV→Prop} (h:yDg H esz lo hi mx x K):∃ r,K r∧ygs H esz lo hi mx x=some r:=by
 unfold yDg at h
 split at h
 ·obtain ⟨h1,h2⟩:=yat.1 h
  simp only [qAf,decide_eq_true_eq] at h1
  exact ⟨_,h2,by simp only [ygs];rw [if_pos h1]⟩
 ·obtain ⟨h1,h2⟩:=yat.1 h
  simp only [qAf,decide_eq_true_eq] at h1
  exact ⟨_,h2,by simp only [ygs];rw [if_pos h1]⟩
 ·rename_i rows
  simp only at h
  split at h
  ·obtain ⟨h1,h⟩:=yat.1 h
   obtain ⟨h2,h⟩:=yat.1 h
   obtain ⟨h3,h⟩:=yat.1 h
   obtain ⟨h4,h⟩:=yat.1 h
   simp only [qBu,decide_eq_true_eq] at h1 h2 h3 h4
   exact ⟨_,h,by simp only [ygs];rw [if_pos ⟨h1,h2,h3,h4⟩]⟩
  ·rename_i m
   obtain ⟨h1,h⟩:=yat.1 h
   obtain ⟨h2,h⟩:=yat.1 h
   obtain ⟨h3,h⟩:=yat.1 h
   obtain ⟨h4,h⟩:=yat.1 h
   obtain ⟨h5,h⟩:=yat.1 h
   obtain ⟨k1,k2⟩:=yeI.1 h
   simp only [qBu,decide_eq_true_eq] at h1 h2 h3 h4 h5
   by_cases hl:lo.getD 0=m
   ·exact ⟨_,k1 (by simpa using hl),by simp only [ygs];rw [if_pos ⟨h1,h2,h3,h4,h5⟩,if_pos hl]⟩
   ·exact ⟨_,k2 (by simpa using hl),by simp only [ygs];rw [if_pos ⟨h1,h2,h3,h4,h5⟩,if_neg hl]⟩
 ·rename_i id lo0 len ext cap
  simp only at h
  split at h
  ·rename_i b hb
   obtain ⟨h0,h⟩:=yat.1 h
   split at h
   ·obtain ⟨h1,h⟩:=yat.1 h
    obtain ⟨h2,h⟩:=yat.1 h
    obtain ⟨h3,h⟩:=yat.1 h
    simp only [qBu,decide_eq_true_eq] at h1 h2 h3
    exact ⟨_,h,by simp only [ygs,hb,h0,Bool.true_eq_false,if_false];rw [if_pos ⟨h1,h2,h3⟩]⟩
   ·obtain ⟨h1,h⟩:=yat.1 h
    obtain ⟨h2,h⟩:=yat.1 h
    obtain ⟨h3,h⟩:=yat.1 h
    obtain ⟨h4,h⟩:=yat.1 h
    simp only [qBu,decide_eq_true_eq] at h1 h2 h3 h4
    exact ⟨_,h,by simp only [ygs,hb,h0,Bool.true_eq_false,if_false];rw [if_pos ⟨h1,h2,h3,h4⟩]⟩
  ·exact h.elim
 ·exact h.elim
theorem yEz {sh:Sh} {rows:List PV} {i:Nat} {K:PV→Prop} (h:WRow sh rows i K):∃ r,K r∧rows[i]?=some r:=by
 have key:asr (decide (i<rows.length)) (asr (conf sh (rows.getD i .nils)) (K (expl sh (rows.getD i .nils))))→∃ r,K r∧rows[i]?=some r:=by
  intro h
  obtain ⟨h1,h⟩:=yat.1 h
  obtain ⟨h2,h⟩:=yat.1 h
  have hi:i<rows.length:=by simpa using h1
  rw [yyH _ _ h2] at h
  refine ⟨_,h,?_⟩
  rw [qAc hi,qAa,qAc hi];rfl
 unfold WRow at h
 split at h
 ·split at h
  ·rename_i r hr;exact ⟨r,h,hr⟩
  ·exact h.elim
 ·exact key h
theorem yHL {a:An} {o:AOp} (hc:ygw o=false) (h:WOp E callK a F H o K):yEy E F H o K:=by
 cases o
 case pick c x y =>
  simp only [WOp] at h
  split at h
  ·rename_i t ht
   obtain ⟨h1,h2⟩:=yeI.1 h
   cases t with
   | true =>
    have h:=h1 rfl
    split at h
    ·rename_i p hp;exact ⟨⟨some (.v p),none,H⟩,h,0,fun m _=>by simp only [yar,ht,hp];rfl⟩
    ·exact h.elim
   | false =>
    have h:=h2 rfl
    split at h
    ·rename_i p hp;exact ⟨⟨some (.v p),none,H⟩,h,0,fun m _=>by simp only [yar,ht,hp];rfl⟩
    ·exact h.elim
  ·exact h.elim
 case bin op x y =>
  simp only [WOp] at h
  split at h
  ·rename_i k p k' q hx hy
   obtain ⟨r,hk,hr⟩:=yHJ h
   exact ⟨⟨some (.v r),none,H⟩,hk,0,fun m _=>by simp only [yar,hx,hy,hr];rfl⟩
  ·exact h.elim
 case eqN neg x =>
  simp only [WOp] at h
  split at h
  ·rename_i hx
   exact ⟨⟨some (.v (.bool (bif neg then false else true))),none,H⟩,h,0,fun m _=>by simp only [yar,hx];cases neg <;> rfl⟩
  ·rename_i b hx
   exact ⟨⟨some (.v (.bool (bif neg then !b else b))),none,H⟩,h,0,fun m _=>by simp only [yar,hx];cases neg <;> rfl⟩
  ·rename_i rows hx
   obtain ⟨h1,h⟩:=yat.1 h
   cases rows with
   | nil=>simp at h1
   | cons q l=>exact ⟨⟨some (.v (.bool neg)),none,H⟩,h,0,fun m _=>by simp only [yar,hx];cases neg <;> rfl⟩
  ·rename_i hx
   exact ⟨⟨some (.v (.bool neg)),none,H⟩,h,0,fun m _=>by simp only [yar,hx];cases neg <;> rfl⟩
  ·exact h.elim
 case load agg sz x =>
  simp only [WOp] at h
  split at h
  ·rename_i id ext i off hx
   split at h
   ·rename_i b hb
    obtain ⟨h1,h⟩:=yat.1 h
    obtain ⟨row,h,hr⟩:=yEz h
    split at h
    ·rename_i p hp
     exact ⟨⟨some (.v p),none,H⟩,h,0,fun m _=>by simp only [yar,hx,hb];rw [if_pos (by simpa using h1)];simp only [hr,hp];rfl⟩
    ·exact h.elim
   ·exact h.elim
  ·exact ywc rfl h
 case store sz x y =>
  simp only [WOp] at h
  split at h
  ·rename_i id ext i off hx
   split at h
   ·rename_i p hp
    split at h
    ·rename_i b0 hb0
     obtain ⟨q,H',h,hq⟩:=ysL h
     split at h
     ·rename_i b hb
      obtain ⟨h1,h⟩:=yat.1 h
      obtain ⟨h2,h⟩:=yat.1 h
      obtain ⟨row,h,hr⟩:=yEz h
      split at h
      ·rename_i row' hrow
       refine ⟨⟨none,none,H'.set id { b with rows:=b.rows.set i row' }⟩,h,0,fun m _=>?_⟩
       have e1:b.rows.length=ext:=by simpa using h1
       have e2:b.fz=false:=by simpa using h2
       simp only [yar,hp,hx,hb0,hq,hb,hr,hrow]
       rw [if_pos ⟨e1,e2⟩]
      ·exact h.elim
     ·exact h.elim
    ·exact h.elim
   ·exact h.elim
  ·exact ywc rfl h
 case iad esz x i =>
  simp only [WOp] at h
  split at h
  ·rename_i rows n hx hi
   obtain ⟨h1,h⟩:=yat.1 h
   obtain ⟨h2,h⟩:=yat.1 h
   obtain ⟨h3,h⟩:=yat.1 h
   obtain ⟨h4,h⟩:=yat.1 h
   simp only [decide_eq_true_eq] at h1 h2
   rw [yyH _ _ h3] at h h4
   have hlt:n.toNat<rows.length:=by omega
   have e:rows[n.toNat]?=some (rows.getD n.toNat .nils):=by
    rw [qAc hlt,qAa,qAc hlt];rfl
   refine ⟨⟨_,_,_⟩,h,0,fun m _=>?_⟩
   simp only [yar,hx,hi]
   rw [if_pos ⟨h1,h2⟩]
   simp only [e]
   rw [if_pos (by simpa using h4)]
   rfl
  ·rename_i id lo len ext cap n hx hi
   split at h
   ·rename_i b hb
    obtain ⟨h1,h⟩:=yat.1 h
    obtain ⟨h2,h⟩:=yat.1 h
    obtain ⟨h3,h⟩:=yat.1 h
    simp only [decide_eq_true_eq] at h1 h2 h3
    refine ⟨⟨_,_,_⟩,h,0,fun m _=>?_⟩
    simp only [yar,hx,hi]
    rw [if_pos ⟨h1,h2⟩]
    simp only [hb]
    rw [if_pos h3]
    rfl
   ·exact h.elim
  ·rename_i id ext r off mm e j hx hi
   obtain ⟨h1,h⟩:=yat.1 h
   have h1:e=esz:=qAn h1
   subst h1
   obtain ⟨k,h',rfl,hk⟩:=yhY mm (qAj _) h
   clear h
   refine ⟨⟨_,_,_⟩,h',0,fun m _=>?_⟩
   simp only [yar,hx,hi]
   rw [if_pos ⟨by omega,by omega,by trivial⟩]
   simp [outV]
  ·exact h.elim
 case iadA n esz x i =>
  simp only [WOp] at h
  split at h
  ·rename_i s o j hx hi
   obtain ⟨k,h',rfl,hk⟩:=yhY n (qAj _) h
   clear h
   refine ⟨⟨_,_,_⟩,h',0,fun m _=>?_⟩
   simp only [yar,hx,hi]
   rw [if_pos ⟨by omega,by omega⟩]
   simp
  ·rename_i id e r o j hx hi
   obtain ⟨k,h',rfl,hk⟩:=yhY n (qAj _) h
   clear h
   refine ⟨⟨_,_,_⟩,h',0,fun m _=>?_⟩
   simp only [yar,hx,hi]
   rw [if_pos ⟨by omega,by omega⟩]
   simp [outV]
  ·rename_i rows r o j hx hi
   obtain ⟨k,h',rfl,hk⟩:=yhY n (qAj _) h
   clear h
   refine ⟨⟨_,_,_⟩,h',0,fun m _=>?_⟩
   simp only [yar,hx,hi]
   rw [if_pos ⟨by omega,by omega⟩]
   simp [outV]
  ·exact h.elim
 case idx agg n esz x i =>
  simp only [WOp] at h
  split at h
  ·rename_i cs j hx hi
   split at h
   ·obtain ⟨h0,k0⟩:=yat.1 h
    obtain ⟨h1,k1⟩:=yat.1 k0
    obtain ⟨h2,k2⟩:=yat.1 k1
    clear h k0 k1
    simp only [qAf,decide_eq_true_eq,qBb] at h0 h1 h2
    obtain ⟨ha,he,hn,hu⟩:=h0
    have he:=qAn he
    have hn:=qAn hn
    subst ha;subst he
    refine ⟨⟨_,_,_⟩,k2,0,fun m _=>?_⟩
    simp only [yar,hx,hi]
    rw [if_pos ⟨h1,h2⟩]
    have hlt:j.toNat<cs.length:=by omega
    have hcell:cs[j.toNat]?=some (.int .u8 (yaa (cs.getD j.toNat .nils))):=yyL cs _ hu hlt
    simp only [yeW,Nat.mul_one,PV.cells,qAr,if_false,hcell]
    rfl
   obtain ⟨k,h',rfl,hk⟩:=yhY n (qAj _) h
   clear h
   split at h'
   ·rename_i p hp
    refine ⟨⟨_,_,_⟩,h',0,fun m _=>?_⟩
    simp only [yar,hx,hi]
    rw [if_pos ⟨by omega,by omega⟩]
    simp only [qAg,hp]
    rfl
   ·exact h'.elim
  ·exact h.elim
 case slc esz x lo hi mx =>
  simp only [WOp] at h
  split at h
  ·rename_i p l hh m hx hl hhi hm
   split at h
   ·exact h.elim
   ·rename_i hb
    obtain ⟨r,h,hr⟩:=yFj h
    refine ⟨⟨_,_,_⟩,h,0,fun _ _=>?_⟩
    simp only [yar,hx,hl,hhi,hm]
    rw [if_neg (by rw [hb];exact Bool.false_ne_true)]
    simp only [hr]
    rfl
  ·exact h.elim
 case mkSl pu esz bytes z l c =>
  simp only [WOp] at h
  split at h
  ·rename_i l c hl hc
   obtain ⟨h1,h⟩:=yat.1 h
   obtain ⟨h2,h⟩:=yat.1 h
   obtain ⟨h3,h⟩:=yat.1 h
   simp only [decide_eq_true_eq] at h1 h2 h3
   refine ⟨⟨_,_,_⟩,h,0,fun _ _=>?_⟩
   simp only [yar,hl,hc]
   rw [if_pos ⟨h1,h2,h3⟩]
   rfl
  ·exact h.elim
 case app pu esz bytes s x =>
  simp only [WOp] at h
  split at h
  ·rename_i s x hs hx
   obtain ⟨ys,h,hy⟩:=yGu h
   obtain ⟨h1,h⟩:=yat.1 h
   obtain ⟨h2,h⟩:=yat.1 h
   obtain ⟨r,H',h,hr⟩:=yHK hy h1 h2 h
   refine ⟨⟨_,_,_⟩,h,0,fun _ _=>?_⟩
   simp only [yar,hs,hx,hr]
   rfl
  ·exact h.elim
 case appZ pu esz bytes z s n =>
  simp only [WOp] at h
  split at h
  ·rename_i k hs hk
   obtain ⟨h1,h⟩:=yat.1 h
   have h1:0≤k:=by simpa using h1
   obtain ⟨ha,hb⟩:=yeI.1 h
   cases h0:decide (k.toNat=0) with
   | true =>
    refine ⟨⟨_,_,_⟩,ha h0,0,fun _ _=>?_⟩
    have h0:k.toNat=0:=by simpa using h0
    simp only [yar,hs,hk,appZ]
    rw [if_pos h1,if_pos h0]
    rfl
   | false =>
    obtain ⟨r,H',h2,hr⟩:=yn6 (hb h0)
    refine ⟨⟨_,_,_⟩,h2,0,fun _ _=>?_⟩
    have h0:¬k.toNat=0:=by simpa using h0
    simp only [yar,hs,hk,appZ]
    rw [if_pos h1,if_neg h0,hr]
    rfl
  ·exact h.elim
 case clr pu esz z x =>
  simp only [WOp] at h
  split at h
  ·rename_i hx
   exact ⟨⟨_,_,_⟩,h,0,fun _ _=>by simp only [yar,hx,clrV];rfl⟩
  ·rename_i hx
   exact ⟨⟨_,_,_⟩,h,0,fun _ _=>by simp only [yar,hx,clrV];rfl⟩
  ·rename_i hx
   exact ⟨⟨_,_,_⟩,h,0,fun _ _=>by simp only [yar,hx,clrV];rfl⟩
  ·rename_i id lo len ext cap hx
   split at h
   ·rename_i b hb
    obtain ⟨ha,hb2⟩:=yeI.1 h
    cases len with
    | zero=>exact ⟨⟨_,_,_⟩,ha rfl,0,fun _ _=>by simp only [yar,hx,clrV];rfl⟩
    | succ len =>
     have h:=hb2 (by simp)
     obtain ⟨h1,h⟩:=yat.1 h
     obtain ⟨h2,h⟩:=yat.1 h
     obtain ⟨h3,h⟩:=yat.1 h
     obtain ⟨h4,h⟩:=yat.1 h
     obtain ⟨h5,h⟩:=yat.1 h
     simp only [decide_eq_true_eq,qBb,beq_iff_eq] at h1 h2 h3 h4
     have h5:=qAn h5
     refine ⟨⟨_,_,_⟩,h,0,fun _ _=>?_⟩
     simp only [yar,hx,clrV,hb]
     rw [if_pos ⟨h1,h2,h3,h4,h5⟩]
     rfl
   ·exact h.elim
  ·exact h.elim
 case boxH pu esz x =>
  simp only [WOp] at h
  split at h
  ·rename_i p hp
   obtain ⟨q,H',h,hq⟩:=ysL h
   obtain ⟨h1,h⟩:=yat.1 h
   simp only [qAf] at h1
   refine ⟨⟨_,_,_⟩,h,0,fun _ _=>?_⟩
   simp only [yar,hp,hq]
   rw [if_pos ⟨qAn h1.1,h1.2⟩]
  ·exact h.elim
 case bSl pu esz z len parts =>
  simp only [WOp] at h
  split at h
  ·exact ⟨⟨_,_,_⟩,h,0,fun _ _=>by simp only [yar,if_true];rfl⟩
  ·obtain ⟨rows,H',h,e⟩:=yqT _ _ _ _ h
   refine ⟨⟨_,_,_⟩,h,0,fun _ _=>?_⟩
   simp only [yar,e]
   rfl
 case buildN pu esz z len parts =>
  simp only [WOp] at h
  split at h
  ·exact ⟨⟨_,_,_⟩,h,0,fun _ _=>by simp only [yar,if_true];rfl⟩
  ·obtain ⟨rows,H',h,e⟩:=yqT _ _ _ _ h
   refine ⟨⟨_,_,_⟩,h,0,fun _ _=>?_⟩
   simp only [yar,e]
   rfl
 case bD esz z len parts =>
  simp only [WOp] at h
  split at h
  ·exact ⟨⟨_,_,_⟩,h,0,fun _ _=>by simp only [yar,if_true];rfl⟩
  ·obtain ⟨rows,H',h,e⟩:=yqT _ _ _ _ h
   refine ⟨⟨_,_,_⟩,h,0,fun _ _=>?_⟩
   simp only [yar,e]
   rfl
 case mvD x =>
  simp only [WOp] at h
  split at h
  ·rename_i p hp
   obtain ⟨y,H',h,e⟩:=ywd h
   split at h
   ·exact ⟨⟨_,_,_⟩,h,0,fun _ _=>by simp only [yar,hp,e];rfl⟩
   ·exact h.elim
  ·exact h.elim
 case call f args=>simp [ygw] at hc
 all_goals exact ywc rfl h
theorem yGv {P:EP} (hP:Sub P E) (hG:Good P callK) {a:An} {o:AOp} (h:WOp E callK a F H o K):yIN P F H o K:=by
 cases hc:ygw o with
 | false =>
  obtain ⟨out,hk,m0,hm⟩:=yHL hc h
  refine ⟨out,hk,0,fun n e m _ hp _=>?_⟩
  have hl:=hP n e hp
  unfold Like at hl
  rw [hl,yDi hc _ (ybV E m0)]
  exact hm m0 (qAj _)
 | true =>
  cases o with
  | call f args =>
   simp only [WOp] at h
   split at h
   ·rename_i g vs hg hvs
    obtain ⟨r,H',h,m0,hm⟩:=hG _ _ _ _ h
    refine ⟨⟨_,_,_⟩,h,m0,fun n e m hn hp hle=>?_⟩
    have hl:=hP n e hp
    have e1:evV e F f=some g:=by unfold Like at hl;rw [hl,yfW];exact hg
    have e2:evs e F args=some vs:=by unfold Like at hl;rw [hl,ymN];exact hvs
    simp only [yar,e1,e2,hm n e m hn hp hle]
    rfl
   ·exact h.elim
  | _=>simp [ygw] at hc
theorem yn7:∀ (F:Frm) (s:Nat) (x:FV),fget F s=some x→frep F s x=F
 | [],_,_,h=>by simp [fget] at h
 | (k,y)::r,s,x,h=>by
  simp only [fget] at h
  simp only [frep]
  by_cases hk:k=s
  ·subst hk
   simp only [if_true,qAd] at h
   subst h
   simp
  ·rw [if_neg hk] at h
   have:Nat.beq k s=false:=by
    cases e:Nat.beq k s with
    | true=>exact absurd (qAn e) hk
    | false=>rfl
   rw [this,yn7 r s x h]
   rfl
theorem yEA {c:Opd} {b:Bool} (h:evV E F c=some (.bool b)):fref F c b=F:=by
 cases c with
 | t s =>
  simp only [evV,ev] at h
  simp only [fref]
  apply yn7
  cases e:fget F s with
  | none=>simp [e] at h
  | some fv=>cases fv <;> simp [e] at h;rw [h]
 | _=>rfl
theorem yyM {g:Option (Nat×Bool)} {yes no:Frm→Prop} (h:yzv F g yes no):(ydk F g=some true∧yes F)∨(ydk F g=some false∧no F):=by
 unfold yzv at h
 split at h
 ·exact .inl ⟨rfl,h⟩
 ·rename_i s want
  split at h
  ·rename_i b hb
   have e:ydk F (some (s,want))=some (b == want):=by simp only [ydk,hb]
   split at h
   ·cases b with
    | true=>have h:yes (frep F s (.v (.bool true))):=h;rw [yn7 _ _ _ hb] at h;exact .inl ⟨by rw [e];rfl,h⟩
    | false=>have h:no (frep F s (.v (.bool false))):=h;rw [yn7 _ _ _ hb] at h;exact .inr ⟨by rw [e];rfl,h⟩
   ·cases b with
    | true=>have h:no (frep F s (.v (.bool true))):=h;rw [yn7 _ _ _ hb] at h;exact .inr ⟨by rw [e];rfl,h⟩
    | false=>have h:yes (frep F s (.v (.bool false))):=h;rw [yn7 _ _ _ hb] at h;exact .inl ⟨by rw [e];rfl,h⟩
  ·rename_i hb
   exact .inr ⟨by simp only [ydk,hb],h⟩
  ·exact h.elim
theorem yzx {P:EP} (hP:Sub P E) (hG:Good P callK) {an:List An}:∀ (l:List AO) (i:Nat) (F:Frm) (H:Hp) (K:Frm→Hp→Prop),WOps E callK an l i F H K →
  ∃ F' H',K F' H'∧∃ m0,∀ n e m,m0≤n→P n e→m0≤m→yeY e (ybV e m) l F H=some (F',H')
 | [],i,F,H,K,h=>⟨F,H,h,0,fun _ _ _ _ _ _=>rfl⟩
 | o::r,i,F,H,K,h=>by
  simp only [WOps] at h
  rcases yyM h with ⟨hg,h⟩ | ⟨hg,h⟩
  ·obtain ⟨out,h,m0,hm⟩:=yGv hP hG h
   split at h
   ·exact h.elim
   ·rename_i F' hF'
    rw [yzw] at h
    obtain ⟨F2,H2,hk,m1,hm1⟩:=yzx hP hG r (i+1) F' out.h K h
    refine ⟨F2,H2,hk,max m0 m1,fun n e m hn hp hle=>?_⟩
    have e0:yh4 e (ybV e m) F H o=some (F',out.h):=by
     simp only [yh4,hg,hm n e m (by omega) hp (by omega),hF',Option.map]
    simp only [yeY,e0]
    exact hm1 n e m (by omega) hp (by omega)
  ·obtain ⟨F2,H2,hk,m1,hm1⟩:=yzx hP hG r (i+1) (yn5 F o.dst) H K h
   refine ⟨F2,H2,hk,m1,fun n e m hn hp hle=>?_⟩
   have e0:yh4 e (ybV e m) F H o=some (yn5 F o.dst,H):=by
    simp only [yh4,hg]
    cases o.dst <;> rfl
   simp only [yeY,e0]
   exact hm1 n e m hn hp hle
structure Cov (p q:FP):Prop where
 rd:q.rd=p.rd
 wr:q.wr=p.wr
 h:p.all=true∨((∀ x,x∈q.hr→x∈p.hr)∧(∀ x,x∈q.hw→x∈p.hw)∧(q.push=true→p.push=true)∧q.all=false)
theorem Cov.tight (p:FP) (H H1:Hp):Cov p (p.tight H H1):=by
 unfold FP.tight
 cases h:p.all with
 | true=>exact ⟨rfl,rfl,.inl h⟩
 | false=>exact ⟨rfl,rfl,.inr ⟨fun _ h=>h,fun _ h=>h,fun h=>h,h⟩⟩
def yzy:List FP→List FP→Prop
 | [],[]=>True
 | p::r,q::s=>Cov p q∧yzy r s
 | _,_=>False
theorem yzy.get:∀ (l l':List FP),yzy l l'→∀ (i:Nat) (p:FP),l[i]?=some p→∃ q:FP,l'[i]?=some q∧Cov p q
 | [],_,_,i,p,e=>by simp at e
 | p::r,[],h,_,_,_=>h.elim
 | p::r,q::s,h,i,x,e=>by
  obtain ⟨h1,h2⟩:=h
  cases i with
  | zero=>simp at e;subst e;exact ⟨q,rfl,h1⟩
  | succ i=>simp at e;simpa using yzy.get r s h2 i x e
theorem ysM:∀ l:List Nat,yel l []=false
 | []=>rfl
 | x::r=>by simp only [yel,ysM r];rfl
theorem ysN:∀ (l m:List Nat),yel l m=true↔∃ x,x∈l∧x∈m
 | [],m=>by simp [yel]
 | y::r,m=>by
  simp only [yel,qBu,ysN r m,List.elem_eq_mem,decide_eq_true_eq,qAv]
  constructor
  ·rintro (h | ⟨x,h1,h2⟩)
   ·exact ⟨y,.inl rfl,h⟩
   ·exact ⟨x,.inr h1,h2⟩
  ·rintro ⟨x,rfl | h1,h2⟩
   ·exact .inl h2
   ·exact .inr ⟨x,h1,h2⟩
theorem ysO {a b a' b':List Nat} (h:yel a b=false) (ha:∀ x,x∈a'→x∈a) (hb:∀ x,x∈b'→x∈b):yel a' b'=false:=by
 cases e:yel a' b' with
 | false=>rfl
 | true =>
  obtain ⟨x,h1,h2⟩:=(ysN _ _).1 e
  have:yel a b=true:=(ysN _ _).2 ⟨x,ha x h1,hb x h2⟩
  rw [h] at this
  cases this
theorem ywe {a:List Nat} (h:∀ x,x∈a→x∈([]:List Nat)):a=[]:=by
 cases a with
 | nil=>rfl
 | cons x r=>exact absurd (h x qAt) (by simp)
theorem yFk {p q p' q':FP} (h:yoA p q=false) (hp:Cov p p') (hq:Cov q q'):yoA p' q'=false:=by
 have hpx:∀ {x x':FP},x.heapy=false→Cov x x'→x'.push=false∧x'.all=false∧x'.hr=[]∧x'.hw=[]:=by
  intro x x' hx hc
  simp only [FP.heapy,qBy,Bool.not_eq_false',List.isEmpty_iff] at hx
  obtain ⟨⟨⟨h1,h2⟩,h3⟩,h4⟩:=hx
  rcases hc.h with h | ⟨k1,k2,k3,k4⟩
  ·rw [h2] at h;cases h
  ·rw [h3] at k1
   rw [h4] at k2
   refine ⟨?_,k4,ywe k1,ywe k2⟩
   cases e:x'.push with
   | false=>rfl
   | true=>rw [k3 e] at h1;cases h1
 simp only [yoA,qBy] at h
 obtain ⟨⟨⟨⟨⟨⟨⟨⟨A,B⟩,C⟩,D⟩,E⟩,G⟩,I⟩,J⟩,K⟩:=h
 have A':yel p'.wr q'.rd=false:=by rw [hp.wr,hq.rd];exact A
 have B':yel p'.wr q'.wr=false:=by rw [hp.wr,hq.wr];exact B
 have C':yel q'.wr p'.rd=false:=by rw [hp.rd,hq.wr];exact C
 cases ea:p.all with
 | true =>
  rw [ea,Bool.true_and] at D
  obtain ⟨h1,h2,h3,h4⟩:=hpx D hq
  simp [yoA,A',B',C',h1,h2,h3,h4,ysM,yel,FP.heapy]
 | false =>
  cases eb:q.all with
  | true =>
   rw [eb,Bool.true_and] at E
   obtain ⟨h1,h2,h3,h4⟩:=hpx E hp
   simp [yoA,A',B',C',h1,h2,h3,h4,ysM,yel,FP.heapy]
  | false =>
   rcases hp.h with h | ⟨k1,k2,k3,k4⟩
   ·rw [ea] at h;cases h
   rcases hq.h with h | ⟨l1,l2,l3,l4⟩
   ·rw [eb] at h;cases h
   have G':(p'.push&&q'.push)=false:=by
    cases e1:p'.push with
    | false=>rfl
    | true =>
     cases e2:q'.push with
     | false=>rfl
     | true=>rw [k3 e1,l3 e2] at G;cases G
   simp only [yoA,A',B',C',k4,l4,Bool.false_and,G',ysO I k2 l1,ysO J k2 l2,ysO K l2 k1,Bool.or_self]
theorem ytZ {l l':List FP} (ht:yzy l l'):∀ (pairs:List (Nat×Nat)),yh5 l pairs=true→yh5 l' pairs=true
 | [],_=>rfl
 | (i,j)::r,h=>by
  simp only [yh5,qAf] at h ⊢
  refine ⟨?_,ytZ ht r h.2⟩
  have h1:=h.1
  split at h1
  ·rename_i p q e1 e2
   obtain ⟨p',k1,c1⟩:=yzy.get l l' ht i p e1
   obtain ⟨q',k2,c2⟩:=yzy.get l l' ht j q e2
   rw [k1,k2]
   simp only [qBb] at h1 ⊢
   exact yFk h1 c1 c2
  ·cases h1
theorem yk4 {E e:Env} (h:Like E e) (f:PV) (args:List PV):yoz e f args=yoz E f args:=by
 unfold Like at h
 rw [h]
 rfl
theorem yDj {p q:PV} {H H1:Hp} (h:ybI H p=some (q,H1)):EffI (idsV p) H H1 H H1:=by
 obtain ⟨H1',e,k⟩:=yfx (H':=H) (fun _ _=>rfl) h
 rw [h] at e
 cases e
 exact k
theorem yjP:∀ (l ps:List PV) (H H1:Hp),yaR H l=some (ps,H1)→H1.length=H.length∧∀ id,id∉idsA l→H1[id]?=H[id]?
 | [],ps,H,H1,h=>by
  simp only [yaR,qAd,Prod.mk.injEq] at h
  rw [← h.2]
  exact ⟨rfl,fun _ _=>rfl⟩
 | x::r,ps,H,H1,h=>by
  simp only [yaR] at h
  split at h
  ·rename_i y H2 hy
   split at h
   ·rename_i ys H3 hys
    simp only [qAd,Prod.mk.injEq] at h
    obtain ⟨_,rfl⟩:=h
    obtain ⟨l1,o1⟩:=yjP r ys H2 _ hys
    have k:=yDj hy
    refine ⟨l1.trans k.len.1,fun id hid=>?_⟩
    simp only [idsA,qA4,not_or] at hid
    rw [o1 id hid.2,(k.out id hid.1).1]
   ·cases h
  ·cases h
theorem yDk {call:Nat→List PV→Hp→Option (PV×Hp)} {x:LocC} {H H1:Hp} {r:PV} (h:ysx call x H=some (r,H1)):∀ id,id∈chgH 0 H H1→id∈x.id::idsA (x.all.set x.j (.int .i64 0)):=by
 intro id hm
 unfold ysx at h
 split at h
 ·rename_i az H' hp
  split at h
  ·rename_i b hb
   split at h
   ·split at h
    ·rename_i q rows hq
     simp only [qAd,Prod.mk.injEq] at h
     obtain ⟨_,rfl⟩:=h
     obtain ⟨l1,o1⟩:=yjP _ _ _ _ hp
     by_cases hi:id=x.id
     ·rw [hi];exact qAt
     ·by_cases hj:id∈idsA (x.all.set x.j (.int .i64 0))
      ·exact qAk _ hj
      ·refine absurd hm ?_
       have:=ysJ 0 H (H'.set x.id { b with rows:=rows }) (by simp [l1]) id (by
        rw [qBg (fun e=>hi e.symm),o1 id hj])
       simpa using this
    ·cases h
   ·cases h
  ·cases h
 ·cases h
theorem yDl {H H1:Hp} {l:List Nat} (h1:H1.length=H.length) (h2:∀ id,id∉l→H1[id]?=H[id]?):∀ id,id∈chgH 0 H H1→id∈l:=by
 intro id hm
 by_cases hj:id∈l
 ·exact hj
 ·refine absurd hm ?_
  have:=ysJ 0 H H1 h1 id (h2 id hj)
  simpa using this
theorem yFl {e:Env} {call:Nat→List PV→Hp→Option (PV×Hp)} {n:Nat} {first captured vs:List PV} {H H1:Hp} {r:PV} (hq:e.qui n=true) (h:yhg e call (.fn (.func n) first captured) vs H=some (r,H1)):∀ id,id∈chgH 0 H H1→id∈idsA (first++vs++captured):=by
 simp only [yhg,hq,if_true] at h
 split at h
 ·split at h
  ·split at h
   ·split at h
    ·cases h
     exact yDl rfl fun _ _=>rfl
    ·cases h
   ·cases h
  ·cases h
 ·split at h
  ·rename_i x hx
   cases h
   split at hx
   ·rename_i az H' hp
    obtain ⟨l1,o1⟩:=yjP _ _ _ _ hp
    split at hx
    ·split at hx
     ·cases hx
      exact yDl rfl fun _ _=>rfl
     ·cases hx
      exact yDl l1 o1
    ·cases hx
   ·cases hx
  ·cases h
theorem yHM {e:Env} (hl:Like E e) {call:Nat→List PV→Hp→Option (PV×Hp)} {F:Frm} {H:Hp} {o:AOp} {out:Out} (h:yar e call F H o=some out) (a b _ _:List Nat) :
  Cov ⟨a++(ytW E F H o).rd,b++(ytW E F H o).wr,(ytW E F H o).hr,(ytW E F H o).hw,(ytW E F H o).push,(ytW E F H o).all⟩
   ((⟨a++(fpOp E F H o).rd,b++(fpOp E F H o).wr,(fpOp E F H o).hr,(fpOp E F H o).hw,(fpOp E F H o).push,(fpOp E F H o).all⟩:FP).tight H out.h):=by
 unfold ytW
 split
 ·rename_i f az
  cases hq:yd2 E F f az with
  | true=>exact Cov.tight _ _ _
  | false =>
  rw [cond_false]
  split
  ·rename_i l hli
   unfold yGq at hli
   split at hli
   ·rename_i g vs hg hvs
    have hg':evV e F f=some g:=by unfold Like at hl;rw [hl,yfW];exact hg
    have hv':evs e F az=some vs:=by unfold Like at hl;rw [hl,ymN];exact hvs
    simp only [yar,hg',hv'] at h
    split at h
    ·rename_i r H1 hr
     cases h
     have key:∀ id,id∈chgH 0 H H1→id∈l:=by
      split at hli
      ·rename_i x hx
       cases hli
       simp only [yiP,(yk4 hl g vs).trans hx] at hr
       exact yDk hr
      ·rename_i hx
       simp only [yiP,(yk4 hl g vs).trans hx] at hr
       split at hli
       ·rename_i n first captured
        cases hqu:E.qui n with
        | false=>rw [hqu] at hli;cases hli
        | true =>
         rw [hqu] at hli
         cases hli
         have:e.qui n=true:=by unfold Like at hl;rw [hl];exact hqu
         exact yFl this hr
       ·cases hli
     simp only [fpOp,hq,qA7,FP.tight,if_true]
     exact ⟨rfl,rfl,.inr ⟨fun _ h=>h,key,fun h=>h,rfl⟩⟩
    ·cases h
   ·cases hli
  ·exact Cov.tight _ _ _
 ·exact Cov.tight _ _ _
theorem yzz {P:EP} (hP:Sub P E) (hG:Good P callK) {an:List An} {F0:Frm} {l0:List AO} {pairs:List (Nat×Nat)}:∀ (l:List AO) (i:Nat) (F:Frm) (H:Hp) (ps:List FP) (K:Frm→Hp→Prop),WFps E callK an F0 l0 pairs l i F H ps K →
  ∃ F' H' qs,K F' H'∧yh5 (ps.reverse++qs) pairs=true∧ynU F0 l0 l0=true∧∃ m0,∀ n e m,m0≤n→P n e→m0≤m→∃ qt,yzy qs qt∧ymF e (ybV e m) l F H=some (F',H',qt)
 | [],i,F,H,ps,K,h=>by
  simp only [WFps] at h
  obtain ⟨h1,h⟩:=yat.1 h
  simp only [qAf] at h1
  exact ⟨F,H,[],h,by simpa using h1.1,h1.2,0,fun _ _ _ _ _ _=>⟨[],trivial,rfl⟩⟩
 | o::r,i,F,H,ps,K,h=>by
  simp only [WFps] at h
  have hfp:∀ n e,P n e→∀ F H,yd9 e F H o=yd9 E F H o:=by
   intro n e hp F H
   have hl:=hP n e hp
   unfold Like at hl
   rw [hl]
   simp only [yd9,yFi]
  rcases yyM h with ⟨hg,h⟩ | ⟨hg,h⟩
  ·obtain ⟨out,h,m0,hm⟩:=yGv hP hG h
   split at h
   ·exact h.elim
   ·rename_i F' hF'
    rw [yzw] at h
    obtain ⟨F2,H2,qs,hk,ha,hb,m1,hm1⟩:=yzz hP hG r (i+1) F' out.h (yEx E F H o::ps) K h
    refine ⟨F2,H2,yEx E F H o::qs,hk,by simpa using ha,hb,max m0 m1,fun n e m hn hp hle=>?_⟩
    obtain ⟨qt,ht,hq⟩:=hm1 n e m (by omega) hp (by omega)
    have ho:=hm n e m (by omega) hp (by omega)
    have e0:yhq e (ybV e m) o (F,H)=some (F',out.h):=by
     simp only [yhq,hg,ho,hF',Option.map]
    refine ⟨(yd9 E F H o).tight H out.h::qt,⟨?_,ht⟩,?_⟩
    ·simp only [yd9,hg,yEx]
     exact yHM (hP n e hp) ho _ _ [] []
    ·simp only [ymF,e0,hq,hfp n e hp]
  ·obtain ⟨F2,H2,qs,hk,ha,hb,m1,hm1⟩:=yzz hP hG r (i+1) (yn5 F o.dst) H (fpNo o::ps) K h
   refine ⟨F2,H2,fpNo o::qs,hk,by simpa using ha,hb,m1,fun n e m hn hp hle=>?_⟩
   obtain ⟨qt,ht,hq⟩:=hm1 n e m hn hp hle
   have e0:yhq e (ybV e m) o (F,H)=some (yn5 F o.dst,H):=by
    simp only [yhq,hg]
    cases o.dst <;> rfl
   have e2:yd9 E F H o=fpNo o:=by simp only [yd9,hg,fpNo]
   refine ⟨(fpNo o).tight H H::qt,⟨Cov.tight _ _ _,ht⟩,?_⟩
   simp only [ymF,e0,hq,hfp n e hp,e2]
def yGw (P:EP) (c:AC) (F:Frm) (H:Hp) (Q:Ex→Frm→Hp→Prop):Prop :=
 ∃ x F' H',Q x F' H'∧∃ m0,∀ n e m,m0≤n→P n e→m0≤m→exec e m c F H=some (x,F',H')
def yqU (P:EP) (c:TC) (F:Frm) (H:Hp) (Q:Ex→Frm→Hp→Prop):Prop:=yGw P (ybJ c) F H Q
def ydw:TC→Bool
 | .seq a b | .cond _ a b=>ydw a&&ydw b
 | .block _ b=>ydw b
 | .loop _ b=>ydw b
 | .lG _ b=>ydw b
 | .join _ b=>ydw b
 | .rangeF _ _ _ _ _ _ _=>false
 | _=>true
def LpOk (P:EP) (E:Env) (lp:LP) (G:Frm):TC→Prop
 | .seq a b=>LpOk P E lp G a∧LpOk P E lp G b
 | .cond _ a b=>LpOk P E lp G a∧LpOk P E lp G b
 | .block _ b=>LpOk P E lp G b
 | .loop id b=>LpOk P E lp G b∧∀ F H Q,lp id G F H Q→yqU P (.loop id b) F H Q
 | .lG id b=>LpOk P E lp G b∧∀ F H Q,lp id G F H Q→yqU P (.lG id b) F H Q
 | .join id b=>LpOk P E lp G b∧∀ F H Q,lp id G F H Q→yqU P (.join id b) F H Q
 | .rangeF _ f np ib ps az bd=>(∃ rs,E.fns f=some ⟨np,rs,ybJ ib⟩∧rs.length=0)∧(ydw ib=true∧ydw az=true∧ydw bd=true)∧(∀ G,LpOk (Rng E G ps (ybJ az) (ybJ bd)) E lp G ib)∧LpOk (Ats E) E lp [] az∧LpOk (Ats E) E lp [] bd
 | _=>True
def yct:TC→List (Nat×TC)
 | .seq a b | .cond _ a b=>yct a++yct b
 | .block _ b=>yct b
 | .loop id b=>yct b++[(id,.loop id b)]
 | .lG id b=>yct b++[(id,.lG id b)]
 | .join id b=>yct b++[(id,.join id b)]
 | _=>[]
theorem yhD {P:EP} {E:Env} {lp:LP} {G:Frm}:∀ (c:TC),ydw c=true→(∀ p∈yct c,∀ F H Q,lp p.1 G F H Q→yqU P p.2 F H Q)→LpOk P E lp G c
 | .skip,_,_ | .ops _ _ _ _,_,_ | .exit _,_,_ | .ret,_,_ | .bad,_,_ | .yret _ _ _ _ _ _ _,_,_ | .cut _,_,_=>trivial
 | .rangeF _ _ _ _ _ _ _,hf,_=>by simp [ydw] at hf
 | .seq a b,hf,h=>by
  simp only [ydw,qAf] at hf
  exact ⟨yhD a hf.1 fun p hp=>h p (by simp only [yct,qA4];exact .inl hp),yhD b hf.2 fun p hp=>h p (by simp only [yct,qA4];exact .inr hp)⟩
 | .cond _ a b,hf,h=>by
  simp only [ydw,qAf] at hf
  exact ⟨yhD a hf.1 fun p hp=>h p (by simp only [yct,qA4];exact .inl hp),yhD b hf.2 fun p hp=>h p (by simp only [yct,qA4];exact .inr hp)⟩
 | .block _ b,hf,h=>yhD b hf h
 | .loop id b,hf,h=>⟨yhD b hf fun p hp=>h p (by simp only [yct,qA4];exact .inl hp),h (id,.loop id b) (by simp [yct])⟩
 | .lG id b,hf,h=>⟨yhD b hf fun p hp=>h p (by simp only [yct,qA4];exact .inl hp),h (id,.lG id b) (by simp [yct])⟩
 | .join id b,hf,h=>⟨yhD b hf fun p hp=>h p (by simp only [yct,qA4];exact .inl hp),h (id,.join id b) (by simp [yct])⟩
def YOk (P:EP) (E:Env) (yk:YK):Prop:=∀ vs H K,yk vs H K→∃ r H',K r H'∧∃ m0,∀ n e,m0≤n→P n e→e.yl e.yn E.yn vs H=some (r,H')
theorem YOk.no (P:EP) (E:Env):YOk P E noYK:=fun _ _ _ h=>h.elim
def ymP (P:EP) (E:Env) (callK:CK) (c:TC):Prop:=ydw c=false→Good (Uni E) callK∧∀ n e,P n e→e=E
theorem yGw.up {P:EP} {c:AC} {F:Frm} {H:Hp} {Q:Ex→Frm→Hp→Prop} {x:Ex} {F':Frm} {H':Hp} {m0:Nat} (hk:Q x F' H') (h:∀ n e k,m0≤n→P n e→m0≤k→exec e (k+1) c F H=some (x,F',H')):yGw P c F H Q :=
 ⟨x,F',H',hk,m0+1,fun n e m hn hp hm=>by
  obtain ⟨k,rfl⟩:∃ k,m=k+1:=⟨m-1,by omega⟩
  exact h n e k (by omega) hp (by omega)⟩
theorem ywf {lp:LP}:∀ (c:TC) (P:EP) (_:Sub P E) (_:Good P callK) (_:ymP P E callK c) (G:Frm) (yk:YK) (_:YOk P E yk) (_:LpOk P E lp G c) (F:Frm) (H:Hp) (Q:Ex→Frm→Hp→Prop),WC E callK lp G yk c F H Q→yGw P (ybJ c) F H Q
 | .skip,P,hP,hG,hR,G,yk,hY,_,F,H,Q,h=>by
  simp only [WC] at h
  exact yGw.up (m0:=0) h fun n e k _ _ _=>by simp only [ybJ,exec]
 | .exit id,P,hP,hG,hR,G,yk,hY,_,F,H,Q,h=>by
  simp only [WC] at h
  exact yGw.up (m0:=0) h fun n e k _ _ _=>by simp only [ybJ,exec]
 | .ret,P,hP,hG,hR,G,yk,hY,_,F,H,Q,h=>by
  simp only [WC] at h
  exact yGw.up (m0:=0) h fun n e k _ _ _=>by simp only [ybJ,exec]
 | .bad,P,hP,hG,hR,G,yk,hY,_,F,H,Q,h=>by simp only [WC] at h
 | .cut _,P,hP,hG,hR,G,yk,hY,_,F,H,Q,h=>by simp only [WC] at h
 | .ops l an ps fg,P,hP,hG,hR,G,yk,hY,_,F,H,Q,h=>by
  cases ps with
  | nil =>
   simp only [WC] at h
   obtain ⟨F',H',hk,m0,hm⟩:=yzx hP hG l 0 F H _ h
   rw [yzw] at hk
   exact yGw.up (m0:=m0) hk fun n e k hn hp hle=>by simp only [ybJ,exec,ymG,hm n e k hn hp hle]
  | cons p ps =>
   simp only [WC] at h
   obtain ⟨F',H',qs,hk,ha,hb,m0,hm⟩:=yzz hP hG l 0 _ H [] _ h
   rw [yzw] at hk
   refine yGw.up (m0:=m0) hk fun n e k hn hp hle=>?_
   obtain ⟨qt,ht,hq⟩:=hm n e k hn hp hle
   simp only [ybJ,exec,ymG,hq]
   rw [if_pos ⟨ytZ ht _ (by simpa using ha),hb⟩]
 | .seq a b,P,hP,hG,hR,G,yk,hY,hl,F,H,Q,h=>by
  simp only [WC] at h
  simp only [LpOk] at hl
  have hRa:ymP P E callK a:=fun hf=>hR (by simp only [ydw,hf,Bool.false_and])
  have hRb:ymP P E callK b:=fun hf=>hR (by simp only [ydw,hf,Bool.and_false])
  obtain ⟨x,F',H',hk,m0,hm⟩:=ywf a P hP hG hRa G yk hY hl.1 F H _ h
  cases x with
  | norm =>
   obtain ⟨x2,F2,H2,hk2,m1,hm1⟩:=ywf b P hP hG hRb G yk hY hl.2 F' H' Q hk
   exact yGw.up (m0:=max m0 m1) hk2 fun n e k hn hp hle=>by simp only [ybJ,exec,hm n e k (by omega) hp (by omega),hm1 n e k (by omega) hp (by omega)]
  | exit i=>exact yGw.up (m0:=m0) hk fun n e k hn hp hle=>by simp only [ybJ,exec,hm n e k hn hp hle]
  | ret=>exact yGw.up (m0:=m0) hk fun n e k hn hp hle=>by simp only [ybJ,exec,hm n e k hn hp hle]
  | brk _ _=>exact yGw.up (m0:=m0) hk fun n e k hn hp hle=>by simp only [ybJ,exec,hm n e k hn hp hle]
 | .cond c a b,P,hP,hG,hR,G,yk,hY,hl,F,H,Q,h=>by
  simp only [WC] at h
  simp only [LpOk] at hl
  have hRa:ymP P E callK a:=fun hf=>hR (by simp only [ydw,hf,Bool.false_and])
  have hRb:ymP P E callK b:=fun hf=>hR (by simp only [ydw,hf,Bool.and_false])
  split at h
  ·rename_i t ht
   have hte:∀ n e,P n e→evV e F c=some (.bool t):=fun n e hp=>by
    have hl:=hP n e hp
    unfold Like at hl
    rw [hl,yfW];exact ht
   obtain ⟨h1,h2⟩:=yeI.1 h
   cases t with
   | true =>
    obtain ⟨x,F',H',hk,m0,hm⟩:=ywf a P hP hG hRa G yk hY hl.1 F H Q (yEA ht ▸ h1 rfl)
    exact yGw.up (m0:=m0) hk fun n e k hn hp hle=>by simp only [ybJ,exec,hte n e hp,hm n e k hn hp hle]
   | false =>
    obtain ⟨x,F',H',hk,m0,hm⟩:=ywf b P hP hG hRb G yk hY hl.2 F H Q (yEA ht ▸ h2 rfl)
    exact yGw.up (m0:=m0) hk fun n e k hn hp hle=>by simp only [ybJ,exec,hte n e hp,hm n e k hn hp hle]
  ·exact h.elim
 | .block id b,P,hP,hG,hR,G,yk,hY,hl,F,H,Q,h=>by
  simp only [WC] at h
  simp only [LpOk] at hl
  have hRb:ymP P E callK b:=fun hf=>hR (by simp only [ydw,hf])
  obtain ⟨x,F',H',hk,m0,hm⟩:=ywf b P hP hG hRb G yk hY hl F H _ h
  cases x with
  | norm=>exact yGw.up (m0:=m0) hk fun n e k hn hp hle=>by simp only [ybJ,exec,hm n e k hn hp hle]
  | exit i =>
   simp only at hk
   cases hb:Nat.beq i id with
   | true =>
    rw [hb] at hk
    have e:=qAn hb
    subst e
    exact yGw.up (m0:=m0) (x:=.norm) hk fun n e k hn hp hle=>by simp only [ybJ,exec,hm n e k hn hp hle,if_true]
   | false =>
    rw [hb] at hk
    have e:¬i=id:=fun e=>by subst e;rw [Nat.beq_refl] at hb;cases hb
    exact yGw.up (m0:=m0) (x:=.exit i) hk fun n e' k hn hp hle=>by simp only [ybJ,exec,hm n e' k hn hp hle,e,if_false]
  | ret=>exact yGw.up (m0:=m0) hk fun n e k hn hp hle=>by simp only [ybJ,exec,hm n e k hn hp hle]
  | brk _ _=>exact yGw.up (m0:=m0) hk fun n e k hn hp hle=>by simp only [ybJ,exec,hm n e k hn hp hle]
 | .loop id b,P,hP,hG,hR,G,yk,hY,hl,F,H,Q,h=>by
  simp only [WC] at h
  simp only [LpOk] at hl
  exact hl.2 F H Q h
 | .lG id b,P,hP,hG,hR,G,yk,hY,hl,F,H,Q,h=>by
  simp only [WC] at h
  simp only [LpOk] at hl
  exact hl.2 F H Q h
 | .join id b,P,hP,hG,hR,G,yk,hY,hl,F,H,Q,h=>by
  simp only [WC] at h
  simp only [LpOk] at hl
  exact hl.2 F H Q h
 | .yret ..,P,hP,hG,hR,G,yk,hY,_,F,H,Q,h=>by simp only [WC] at h
 | .rangeF ..,P,hP,hG,hR,G,yk,hY,_,F,H,Q,h=>by simp only [WC] at h
theorem yqU.intro {id:Nat} {P:EP} (hP:Sub P E) (hG:Good P callK) {lp:LP} {b:TC} (hf:ydw b=true) {G:Frm} {yk:YK} (hY:YOk P E yk) (hl:LpOk P E lp G b) {Q:Ex→Frm→Hp→Prop} (R:Nat→Frm→Hp→Prop) (h0:∀ F H,¬R 0 F H)
  (hs:∀ n F H,R (n+1) F H→WC E callK lp G yk b F H fun x F' H'=>match x with | .norm=>R n F' H' | .exit i=>Q (.exit i) F' H' | .ret=>Q .ret F' H' | .brk k i=>Q (.brk k i) F' H') :
  ∀ n F H,R n F H→yqU P (.loop id b) F H Q
 | 0,F,H,h=>(h0 F H h).elim
 | n+1,F,H,h=>by
  obtain ⟨x,F',H',hk,m0,hm⟩:=ywf b P hP hG (fun hf'=>by rw [hf] at hf';cases hf') G yk hY hl F H _ (hs n F H h)
  cases x with
  | norm =>
   have hk:R n F' H':=hk
   obtain ⟨x2,F2,H2,hk2,m1,hm1⟩:=yqU.intro (id:=id) hP hG hf hY hl R h0 hs n F' H' hk
   simp only [ybJ] at hm1
   exact yGw.up (m0:=max m0 m1) hk2 fun n e k hn hp hle=>by simp only [ybJ,exec,hm n e k (by omega) hp (by omega),hm1 n e k (by omega) hp (by omega)]
  | exit i=>exact yGw.up (m0:=m0) hk fun n e k hn hp hle=>by simp only [ybJ,exec,hm n e k hn hp hle]
  | ret=>exact yGw.up (m0:=m0) hk fun n e k hn hp hle=>by simp only [ybJ,exec,hm n e k hn hp hle]
  | brk _ _=>exact yGw.up (m0:=m0) hk fun n e k hn hp hle=>by simp only [ybJ,exec,hm n e k hn hp hle]
end
def AnsP (P:EP) (n:Nat) (az:List PV) (r:PV):Prop:=∃ m0,∀ k e m,m0≤k→P k e→m0≤m→ydj e (ybV e m) n az=some r
def Ans (E:Env) (n:Nat) (az:List PV) (r:PV):Prop:=AnsP (Uni E) n az r
def AnsS (E:Env) (n:Nat) (az:List PV) (r:PV):Prop:=AnsP (Solo E) n az r
theorem AnsP.sub {P P':EP} {n:Nat} {az:List PV} {r:PV} (h:AnsP P n az r) (hs:∀ k e,P' k e→P k e):AnsP P' n az r:=by
 obtain ⟨m0,hm⟩:=h
 exact ⟨m0,fun k e m h1 h2 h3=>hm k e m h1 (hs k e h2) h3⟩
theorem Ans.solo {E:Env} {n:Nat} {az:List PV} {r:PV} (h:Ans E n az r):AnsS E n az r:=AnsP.sub h fun _ e h=>by cases h;rfl
def yGx (E:Env):Prop:=∀ n az H x,E.eff n az H=some x→E.qui n=false∧E.frz n=false∧(∀ az,E.sum n az=none)∧E.rb n=false
def AnsL (P:EP) (n:Nat) (az:List PV) (b:HB) (q:PV) (rows:List PV):Prop:=∃ m0,∀ k e m,m0≤k→P k e→m0≤m→yCS (ybV e m) n az b=some (q,rows)
structure SEOk (P:EP) (S:SE):Prop where
 sb:Sub P S.E
 sum:∀ n wp,S.sumK n=some wp→∀ az K,wp az K→∃ r,K r∧AnsP P n az r
 inl:∀ n fn,S.inl n=some fn→S.E.fns n=some fn.fn∧S.E.qui n=false∧S.E.frz n=false∧(∀ az,S.E.sum n az=none)∧(∀ az H,S.E.eff n az H=none)∧ydw fn.body=true∧LpOk P S.E S.lp [] fn.body
 eff:yGx S.E
 sumL:∀ n wp,S.sumL n=some wp→∀ az b K,wp az b K→∃ q rows,K q rows∧AnsL P n az b q rows
section
variable {S:SE} {P:EP} {callK:CK} {H:Hp}
theorem yfX {E e:Env} (h:Like E e):e.fns=E.fns∧e.sum=E.sum∧e.qui=E.qui∧e.frz=E.frz∧e.rb=E.rb∧e.nl=E.nl∧e.eff=E.eff:=by
 unfold Like at h
 rw [h]
 exact ⟨rfl,rfl,rfl,rfl,rfl,rfl,rfl⟩
theorem yGy (hP:Sub P S.E) (hG:Good P callK) {fn:TFn} (hR:ymP P S.E callK fn.body) (hl:LpOk P S.E S.lp [] fn.body) {n:Nat} (hf:S.E.fns n=some fn.fn) (he:∀ az H,S.E.eff n az H=none) {args:List PV} {K:PV→Hp→Prop} (h:WFn S.E callK S.lp fn args H K) :
  ∃ r H',K r H'∧∃ m0,∀ k e m,m0≤k→P k e→m0≤m→ybV e m n args H=some (r,H'):=by
 obtain ⟨h1,h⟩:=yat.1 h
 have h1:args.length=fn.nparams:=by simpa using h1
 obtain ⟨x,F',H',hk,m0,hm⟩:=ywf fn.body P hP hG hR [] noYK (YOk.no _ _) hl _ H _ h
 have key:(match yh6 F' H' fn.results with | some ps=>K (yh7 ps) H' | none=>False)→(x=.norm∨x=.ret) →
   ∃ r H',K r H'∧∃ m0,∀ k e m,m0≤k→P k e→m0≤m→ybV e m n args H=some (r,H'):=by
  intro hk hx
  split at hk
  ·rename_i ps hps
   refine ⟨_,_,hk,m0+1,fun k e m hkl hp hle=>?_⟩
   obtain ⟨q,rfl⟩:∃ q,m=q+1:=⟨m-1,by omega⟩
   have e0:=hm k e q (by omega) hp (by omega)
   obtain ⟨l1,_,_,_,_,_,l7⟩:=yfX (hP k e hp)
   simp only [ybV,Env.effx,ytI,l7,l1,he,hf,TFn.fn,h1,if_true]
   rw [e0]
   rcases hx with rfl | rfl <;> simp only [hps]
  ·exact hk.elim
 cases x with
 | norm=>exact key hk (.inl rfl)
 | exit i=>exact hk.elim
 | brk _ _=>exact hk.elim
 | ret=>exact key hk (.inr rfl)
theorem yqV {e:Env} {call:Nat→List PV→Hp→Option (PV×Hp)} {f:PV} {args:List PV} (h:yoz e f args=none):yiP e call f args H=yhg e call f args H:=by
 simp only [yiP,h]
theorem yaF (hS:SEOk P S):∀ d,Good P (ytX S d)
 | 0,f,args,H,K,h=>h.elim
 | d+1,f,args,H,K,h=>by
  unfold ytX at h
  split at h
  ·rename_i n first captured
   split at h
   ·rename_i x hx
    split at h
    ·rename_i wp hwp
     unfold WLoc at h
     obtain ⟨az,H',h,hp⟩:=yqS _ _ _ h
     split at h
     ·rename_i b hb
      obtain ⟨hc,h⟩:=yat.1 h
      simp only [qAf,qBb] at hc
      obtain ⟨q,rows,hk,m0,hm⟩:=hS.sumL _ wp hwp _ _ _ h
      refine ⟨q,_,hk,m0,fun k e m hkl he hle=>?_⟩
      simp only [yiP,yk4 (hS.sb k e he),hx,ysx,hp,hb]
      rw [if_pos hc]
      simp only [hm k e m hkl he hle]
     ·exact h.elim
    ·exact h.elim
   rename_i hx
   have hx':∀ k e,P k e→yoz e (.fn (.func n) first captured) args=none:=fun k e he=>(yk4 (hS.sb k e he) _ _).trans hx
   split at h
   ·rename_i wp hwp
    cases hb:S.E.rb n with
    | true =>
     rw [hb,cond_true] at h
     obtain ⟨az,h,hp⟩:=yyK _ _ h
     obtain ⟨r,hk,m0,hm⟩:=hS.sum n wp hwp az _ h
     obtain ⟨hs,hk⟩:=yat.1 hk
     refine ⟨r,_,hk,m0,fun k e m hkl he hle=>?_⟩
     obtain ⟨_,_,_,_,l5,_,_⟩:=yfX (hS.sb k e he)
     rw [yqV (hx' k e he)]
     simp only [yhg,l5,hb,if_true,hp,hm k e m hkl he hle,hs]
    | false =>
     rw [hb,cond_false] at h
     obtain ⟨az,H',h,hp⟩:=yqS _ _ _ h
     obtain ⟨r,hk,m0,hm⟩:=hS.sum n wp hwp az _ h
     refine ⟨r,_,hk,m0,fun k e m hkl he hle=>?_⟩
     obtain ⟨_,_,_,_,l5,_,_⟩:=yfX (hS.sb k e he)
     rw [yqV (hx' k e he)]
     simp only [yhg,l5,hb,qAr,if_false,hp,hm k e m hkl he hle]
     cases r.scalar <;> simp
   ·split at h
    ·rename_i fn hfn
     obtain ⟨h1,h2,h3,h4,h6,h7,h5⟩:=hS.inl n fn hfn
     cases hb:S.E.rb n with
     | true =>
      rw [hb,cond_true] at h
      exact h.elim
     | false =>
      rw [hb,cond_false] at h
      obtain ⟨r,H',hk,m0,hm⟩:=yGy hS.sb (yaF hS d) (fun hf=>by rw [h7] at hf;cases hf) h5 h1 h6 h
      refine ⟨r,H',hk,m0,fun k e m hkl he hle=>?_⟩
      obtain ⟨_,l2,l3,l4,l5,_,_⟩:=yfX (hS.sb k e he)
      have e0:∀ az,ydj e (ybV e m) n az=none:=by
       intro az;simp only [ydj,l2,l3,h4 az,h2];rfl
      rw [yqV (hx' k e he)]
      simp only [yhg,e0,l3,l4,l5,h2,h3,hb]
      cases yaR H (first++args++captured) <;> simp only [qAr,if_false,hm k e m hkl he hle]
    ·split at h
     ·rename_i c t x y he
      obtain ⟨hc,h⟩:=yat.1 h
      subst hc
      obtain ⟨h2,h3,h4,h7⟩:=hS.eff n _ _ _ he
      obtain ⟨r,H',h,hrt⟩:∃ r H',K r H'∧(bif t then x else y)=(r,H'):=by
       cases t with
       | true=>exact ⟨_,_,h,rfl⟩
       | false=>exact ⟨_,_,h,rfl⟩
      refine ⟨r,H',h,1,fun k e m hkl hp hle=>?_⟩
      obtain ⟨k,rfl⟩:∃ k,m=k+1:=⟨m-1,by omega⟩
      obtain ⟨_,l2,l3,l4,l5,_,l7⟩:=yfX (hS.sb _ e hp)
      have e0:∀ az,ydj e (ybV e (k+1)) n az=none:=by
       intro az;simp only [ydj,l2,l3,h4 az,h2];rfl
      have hi:ybV e (k+1) n (first++args++captured) H=some (r,H'):=by
       simp only [ybV,Env.effx,ytI,l7,he,hrt]
      rw [yqV (hx' _ e hp)]
      simp only [yhg,e0,l3,l4,l5,h2,h3,h7]
      cases yaR H (first++args++captured) <;> simp only [qAr,if_false,hi]
     ·exact h.elim
  ·exact h.elim
theorem yJe (hS:SEOk P S) {d:Nat} {fn:TFn} {n:Nat} (hR:ymP P S.E (ytX S d) fn.body) (hl:LpOk P S.E S.lp [] fn.body) (hf:S.E.fns n=some fn.fn) (hq:S.E.qui n=true) (hs:∀ az,S.E.sum n az=none) (he:∀ az H,S.E.eff n az H=none) {az:List PV} {K:PV→Prop} (h:WP S d fn az K) (hn:S.E.nl n=false:=by kernel_rfl) :
  ∃ r,K r∧AnsP P n az r:=by
 unfold WP at h
 obtain ⟨r,H',hk,m0,hm⟩:=yGy hS.sb (yaF hS d) hR hl hf he h
 obtain ⟨q,hk,hq'⟩:=yGt hk
 refine ⟨q,hk,m0,fun k e m hkl hp hle=>?_⟩
 obtain ⟨_,l2,l3,_,_,l6,_⟩:=yfX (hS.sb k e hp)
 simp only [ydj,l2,l3,l6,hs az,hq,hm k e m hkl hp hle,hn,purN,cond_false,hq',if_true]
theorem ymP.flat {E:Env} {c:TC} (h:ydw c=true:=by kernel_rfl):ymP P E callK c:=fun hf=>by rw [h] at hf;cases hf
end
def AllL (P:EP) (lp:LP) (G:Frm):List (Nat×TC)→Prop
 | []=>True
 | p::r=>(∀ F H Q,lp p.1 G F H Q→yqU P p.2 F H Q)∧AllL P lp G r
theorem AllL.mem {P:EP} {lp:LP} {G:Frm}:∀ {l:List (Nat×TC)},AllL P lp G l→∀ p∈l,∀ F H Q,lp p.1 G F H Q→yqU P p.2 F H Q
 | [],_,p,hp=>by cases hp
 | q::r,h,p,hp=>by
  rcases qAv.1 hp with rfl | hp
  ·exact h.1
  ·exact AllL.mem h.2 p hp
theorem ya5 {P:EP} {E:Env} {lp:LP} {G:Frm} {c:TC} {l:List (Nat×TC)} (h:AllL P lp G l) (e:yct c=l) (hf:ydw c=true:=by kernel_rfl):LpOk P E lp G c:=yhD c hf (by rw [e];exact h.mem)
theorem yan {P:EP} {E:Env} {lp:LP} {G:Frm} {c:TC} (e:yct c=[]) (hf:ydw c=true:=by kernel_rfl):LpOk P E lp G c:=ya5 (l:=[]) trivial e hf
def yko:List (Nat×(List PV→(PV→Prop)→Prop))→Nat→Option (List PV→(PV→Prop)→Prop)
 | [],_=>none
 | (k,f)::r,n=>bif Nat.beq k n then some f else yko r n
def ykp:List (Nat×TFn)→Nat→Option TFn
 | [],_=>none
 | (k,f)::r,n=>bif Nat.beq k n then some f else ykp r n
def AllS (P:EP):List (Nat×(List PV→(PV→Prop)→Prop))→Prop
 | []=>True
 | (k,f)::r=>(∀ az K,f az K→∃ q,K q∧AnsP P k az q)∧AllS P r
def AllI (P:EP) (E:Env) (lp:LP):List (Nat×TFn)→Prop
 | []=>True
 | (k,f)::r=>(E.fns k=some f.fn∧E.qui k=false∧E.frz k=false∧(∀ az,E.sum k az=none)∧(∀ az H,E.eff k az H=none)∧ydw f.body=true∧LpOk P E lp [] f.body)∧AllI P E lp r
theorem yBK {P:EP}:∀ (l:List (Nat×(List PV→(PV→Prop)→Prop))),AllS P l→∀ n wp,yko l n=some wp→∀ az K,wp az K→∃ r,K r∧AnsP P n az r
 | [],_,_,_,h=>by simp [yko] at h
 | (k,f)::r,hl,n,wp,h=>by
  simp only [AllS] at hl
  simp only [yko] at h
  cases hc:Nat.beq k n with
  | true =>
   rw [hc] at h
   simp only [cond_true,qAd] at h
   have:=qAn hc
   subst this;subst h
   exact hl.1
  | false =>
   rw [hc] at h
   exact yBK r hl.2 n wp (by simpa using h)
theorem yBL {P:EP} {E:Env} {lp:LP}:∀ (l:List (Nat×TFn)),AllI P E lp l→∀ n fn,ykp l n=some fn→E.fns n=some fn.fn∧E.qui n=false∧E.frz n=false∧(∀ az,E.sum n az=none)∧(∀ az H,E.eff n az H=none)∧ydw fn.body=true∧LpOk P E lp [] fn.body
 | [],_,_,_,h=>by simp [ykp] at h
 | (k,f)::r,hl,n,fn,h=>by
  simp only [AllI] at hl
  simp only [ykp] at h
  cases hc:Nat.beq k n with
  | true =>
   rw [hc] at h
   simp only [cond_true,qAd] at h
   have:=qAn hc
   subst this;subst h
   exact hl.1
  | false =>
   rw [hc] at h
   exact yBL r hl.2 n fn (by simpa using h)
theorem yas {P:EP} {E:Env} {ls:List (Nat×(List PV→(PV→Prop)→Prop))} {li:List (Nat×TFn)} {lp:LP} (hb:Sub P E) (hs:AllS P ls) (hi:AllI P E lp li) (he:yGx E):SEOk P ⟨E,yko ls,ykp li,lp,fun _=>none⟩ where
 sb:=hb
 sum:=fun n wp h=>yBK ls hs n wp h
 inl:=fun n fn h=>yBL li hi n fn h
 eff:=he
 sumL:=fun n wp h=>by cases h
theorem yyN {add sub n:Nat} (h1:Nat.beq n add=false) (h2:Nat.beq n sub=false) (az:List PV):sumC add sub n az=none:=by
 unfold sumC
 split
 ·rw [h1,h2];rfl
 ·rfl
def yhZ (p0 p1 p2:Int) (K:Int→Int→Prop):Prop :=
 asr (decide (p2.toNat≤1)) (K (((p0.toNat+p1.toNat+p2.toNat) % 18446744073709551616:Nat):Int) (((p0.toNat+p1.toNat+p2.toNat) / 18446744073709551616:Nat):Int))
def yfY:List PV:=([0,1,2,2,3,3,3,3,4,4,4,4,4,4,4,4,5,5,5,5,5,5,5,5,5,5,5,5,5,5,5,5,6,6,6,6,6,6,6,6,6,6,6,6,6,6,6,6,6,6,6,6,6,6,6,6,6,6,6,6,6,6,6,6,7,7,7,7,7,7,7,7,7,7,7,7,7,7,7,7,7,7,7,7,7,7,7,7,7,7,7,7,7,7,7,7,7,7,7,7,7,7,7,7,7,7,7,7,7,7,7,7,7,7,7,7,7,7,7,7,7,7,7,7,7,7,7,7,8,8,8,8,8,8,8,8,8,8,8,8,8,8,8,8,8,8,8,8,8,8,8,8,8,8,8,8,8,8,8,8,8,8,8,8,8,8,8,8,8,8,8,8,8,8,8,8,8,8,8,8,8,8,8,8,8,8,8,8,8,8,8,8,8,8,8,8,8,8,8,8,8,8,8,8,8,8,8,8,8,8,8,8,8,8,8,8,8,8,8,8,8,8,8,8,8,8,8,8,8,8,8,8,8,8,8,8,8,8,8,8,8,8,8,8,8,8,8,8,8,8,8,8,8,8,8,8]:List Int).map (PV.int .u8)
def ypj (w:Int→Int→Int→(Int→Int→Prop)→Prop) (az:List PV) (K:PV→Prop):Prop :=
 match az with
 | [(.int .u64 p0),(.int .u64 p1),(.int .u64 p2)]=>w p0 p1 p2 (fun (r0:Int) (r1:Int)=>K (.tup [(.int .u64 r0),(.int .u64 r1)]))
 | _=>False
def ypk (az:List PV) (K:PV→Prop):Prop:=ypj yhZ az K
def yh0 (p0 p1 p2:Int) (K:Int→Int→Prop):Prop :=
 asr (decide (p2.toNat≤1)) (K (((p0.toNat+18446744073709551616-p1.toNat-p2.toNat) % 18446744073709551616:Nat):Int) ((bif Nat.ble (p1.toNat+p2.toNat) p0.toNat then 0 else 1:Nat):Int))
def ypl (w:Int→Int→Int→(Int→Int→Prop)→Prop) (az:List PV) (K:PV→Prop):Prop :=
 match az with
 | [(.int .u64 p0),(.int .u64 p1),(.int .u64 p2)]=>w p0 p1 p2 (fun (r0:Int) (r1:Int)=>K (.tup [(.int .u64 r0),(.int .u64 r1)]))
 | _=>False
def ypm (az:List PV) (K:PV→Prop):Prop:=ypl yh0 az K
theorem yHN {P:Program} {E:Env} (hE:EO P E) (hm:P.follows .mixedOrders=true) {n:Nat} {az:List PV} {r:PV} (hs:E.sum n az=none) (hq:E.qui n=true) (h:AnsS E n az r):ymc P E.glob n az r:=by
 obtain ⟨m0,hm0⟩:=h
 have:=hm0 m0 E m0 (qAj _) rfl (qAj _)
 simp only [ydj,hs,hq,if_true] at this
 refine yEl hE hm (n:=m0) ?_
 unfold topV
 split at this
 ·rename_i x H hx;rw [hx];exact this
 ·cases this
end Go.Pf
namespace Go.Pf
open Go Go.RowKit
section
variable {P:Program} {E:Env}
theorem yFm {b:Bool} {call} (hc:ybq P E call) {I:Nat→Prop} {w:World} {f:Nat} {args:List PV} {vs:List Value} {r q:PV} {H:Hp} (himm:∀ b,I b→b<w.heap.size)
  (hg:∀ n x,E.glob n=some x→I n∧∃ vs,0<vs.length∧RC I w x vs∧At w n 0 vs) (hv:VRs ⟨fun _=>none,fun _=>none,I,fun _=>none⟩ [] w args vs) (hin:call f args []=some (r,H)) (h:purN b H r=some q) :
  yig P f vs.toArray w fun v w'=>Bel w.heap.size w w'∧VP (fun b=>I b∨(w.heap.size≤b∧b<w'.heap.size)) w' q v:=by
 let g0:Gh:=⟨fun _=>none,fun _=>none,I,fun _=>none⟩
 have hr:Rel E 0 g0 [] [] #[] w:=by
  refine ⟨qBh _,fun s fv e=>by simp [fget] at e,fun id hb e=>by simp at e,fun id id' hb b o b' o' e=>by simp at e,fun id b o e=>by simp [g0] at e,fun s s' b e=>by simp [g0] at e,fun s b id o e=>by simp [g0] at e,fun s b e=>by simp [g0] at e,himm,hg⟩
 refine (hc f args [] r H hin 0 g0 [] #[] w vs hr (Lps.none_ fun _=>rfl) hv).mono ?_
 rintro v w' ⟨g',n1,r1,hvr⟩
 obtain ⟨g2,H2,r2,n2,hvp⟩:=yvN r1 hvr h
 have n3:=n1.trans n2
 have noR:∀ b,¬RngR g0 b:=fun b ⟨id,o,e⟩=>by simp [g0] at e
 have noM:∀ b,¬MutF g0 b:=fun b ⟨s,e⟩=>by simp [g0] at e
 refine ⟨⟨⟨n3.os,n3.tape,n3.output,n3.size,fun k hk=>n3.kept k hk (noR k) (noM k)⟩,n3.drawn⟩,yzl (fun b hb=>⟨?_,rfl⟩) hvp⟩
 rcases qA8 b w.heap.size with h1 | h1
 ·rcases hb with hb | hb
  ·rcases n3.immb b h1 hb with h2 | h2
   ·exact .inl h2
   ·exact absurd h2 (noR b)
  ·exact absurd (n3.rng b h1 hb) (noR b)
 ·exact .inr ⟨h1,hb.elim (r2.imm b) r2.brng⟩
theorem yIO (hE:EO P E) (hm:P.follows .mixedOrders=true) {n f:Nat} {q:PV} (h:∀ b,topV E n f [.mt b]=some q):ymc P E.glob f [.data []] q:=by
 intro I w vs himm hgl hv
 simp only [VPs,VP1,RC] at hv
 obtain ⟨v,vr,rfl,⟨a,len,cap,e,hl,hc,hm2,_⟩,rfl⟩:=hv
 simp only [qA1,and_true] at e
 subst e
 have hl:len=0:=hl
 subst hl
 have hh:=h a.isNone
 unfold topV at hh
 split at hh
 ·rename_i r H hin
  refine yFm (yyE hE hm n) himm hgl (args:=[.mt a.isNone]) ?_ hin hh
  simp only [VRs,VR]
  exact ⟨_,_,rfl,⟨a,cap,rfl,hm2,rfl⟩,rfl⟩
 ·cases hh
end
def ysP (esz bytes:Nat) (z:PV):AFn:=⟨1,[.tmp 2],
 (.seq
  (.ops [⟨some 2,(.mv (.c .nils)),none⟩] [] [2])
  (.seq
   (.seq
    (.ops [⟨some 3,(.mv (.t 0)),none⟩,
     ⟨some 4,(.eqN false (.t 3)),none⟩] [] [3])
    (.cond (.t 4)
     (.seq (.ops [⟨some 2,(.mv (.c .nils)),none⟩] [] [0,4]) .ret)
     .skip))
   (.seq
    (.ops [⟨some 5,(.bSl true esz z 0 []),none⟩,
     ⟨some 6,(.mv (.t 0)),none⟩,
     ⟨some 7,(.app true esz bytes (.t 5) (.t 6)),none⟩,
     ⟨some 2,(.mv (.t 7)),none⟩] [] [0,4,5,6,7])
    .ret)))⟩
abbrev yep:=List (Nat×Nat×Nat)
def yhE (esz bytes:Nat) (rows:List PV):Bool:=ydq esz rows&&decide ((rows.length+64)*(bytes+1)≤room)
def yfZ:yep→Nat→List PV→Option PV
 | [],_,_=>none
 | (k,esz,bytes)::r,n,az=>bif Nat.beq k n then (match az with
  | [.data rows]=>(bif yhE esz bytes rows then some (.data rows) else none)
  | _=>none) else yfZ r n az
def yqW:yep→Nat→Bool
 | [],_=>false
 | (k,_,_)::r,n=>Nat.beq k n||yqW r n
section
variable {P:Program} {E:Env}
theorem yGz {n esz bytes:Nat} {z:PV} (hf:E.fns n=some (ysP esz bytes z)) (he:∀ az H,E.eff n az H=none) (hnl:E.nl n=false) (b:Bool):topV E 12 n [.mt b]=some (.data []):=by
 unfold topV
 cases b <;> simp [ybV,Env.effx,ytI,he,exec,hf,ysP,ymG,yeY,yh4,ydk,yar,evV,ev,yjK,fget,fset,fdels,fdel,yeV,ydr,outV,Option.map,yh6,yyo,yh7,purN,hnl,purR,ybI,yec,appV,ygr,ydq,yoy]
theorem yDm {n esz bytes:Nat} {z:PV} (hf:E.fns n=some (ysP esz bytes z)) (he:∀ az H,E.eff n az H=none) (hnl:E.nl n=false) {x:PV} {r:List PV} (h:yhE esz bytes (x::r)=true):topV E 12 n [.data (x::r)]=some (.data (x::r)):=by
 simp only [yhE,qAf,decide_eq_true_eq,qAl] at h
 obtain ⟨h1,h2⟩:=h
 unfold topV
 simp [ybV,Env.effx,ytI,he,exec,hf,ysP,ymG,yeY,yh4,ydk,yar,evV,ev,yjK,fget,fset,fdels,fdel,yeV,ydr,outV,Option.map,yh6,yyo,yh7,purN,hnl,purR,ybI,yec,appV,ygr,h1,yoy,ycz,h2]
theorem yt0 (hE:EO P E) (hm:P.follows .mixedOrders=true) (he:∀ n az H,E.eff n az H=none) (hnl:∀ n,E.nl n=false):∀ (cl:yep),(∀ n esz bytes,(n,esz,bytes)∈cl→∃ z,E.fns n=some (ysP esz bytes z))→∀ n az r,yfZ cl n az=some r→ymc P E.glob n az r
 | [],_,_,_,_,h=>by simp [yfZ] at h
 | (k,esz,bytes)::t,hc,n,az,r,h=>by
  simp only [yfZ] at h
  cases hb:Nat.beq k n with
  | false=>rw [hb] at h;exact yt0 hE hm he hnl t (fun n e b hm=>hc n e b (qAk _ hm)) n az r (by simpa using h)
  | true =>
   rw [hb] at h
   have e:=qAn hb
   subst e
   simp only [cond_true] at h
   split at h
   ·rename_i rows
    cases hk:yhE esz bytes rows with
    | false=>rw [hk] at h;simp at h
    | true =>
     rw [hk] at h
     simp only [cond_true,qAd] at h
     subst h
     obtain ⟨z,hf⟩:=hc k esz bytes qAt
     cases rows with
     | nil=>exact yIO hE hm (fun b=>yGz hf (he k) (hnl k) b)
     | cons x r=>exact yEl hE hm (yDm hf (he k) (hnl k) hk)
   ·cases h
end
def yIk:List (Nat×PV)→Nat→Option PV
 | [],_=>none
 | (k,a)::r,n=>bif Nat.beq k n then some a else yIk r n
theorem ymc.any {P:Program} {G:Nat→Option PV} {f:FuncId} {az:List PV} {r:PV} (h:ymc P (fun _=>none) f az r):ymc P G f az r :=
 fun I w vs hI _ hv=>h I w vs hI (fun _ _ e=>nomatch e) hv
def ymf (add sub:Nat) (tab:List (Nat×AFn)) (qui:List Nat) (cl:yep) (gl:List (Nat×PV)):Env :=
 { glob:=yIk gl,sum:=fun n az=>match sumC add sub n az with | some r=>some r | none=>yfZ cl n az,fns:=yvY tab,frz:=fun _=>false,qui:=memN qui,nl:=fun n=>memN qui (n+1000000),rb:=fun n=>memN qui (n+3000000),lo:=fun n=>bif memN qui (n+4000000) then some 1 else bif memN qui (n+5000000) then some 0 else bif memN qui (n+2000000) then some 4 else none,dn:=fun n=>memN qui (n+6000000) }
def yvd (add sub:Nat) (cl:yep) (n:Nat):Bool:=Nat.beq n add||(Nat.beq n sub||yqW cl n)
theorem yoL:∀ (cl:yep) (n:Nat) (az:List PV),yqW cl n=false→yfZ cl n az=none
 | [],_,_,_=>rfl
 | (k,_,_)::r,n,az,h=>by
  simp only [yqW,qBy] at h
  simp only [yfZ,h.1,cond_false]
  exact yoL r n az h.2
theorem yDn {add sub:Nat} {tab:List (Nat×AFn)} {qui:List Nat} {cl:yep} {gl:List (Nat×PV)} {n:Nat} (h:yvd add sub cl n=false) (az:List PV):(ymf add sub tab qui cl gl).sum n az=none:=by
 simp only [yvd,qBy] at h
 simp only [ymf,yyN h.1 h.2.1,yoL cl n az h.2.2]
def yEB (esz bytes:Nat) (p0:List PV) (K:List PV→Prop):Prop:=asr (yhE esz bytes p0) (K p0)
def ywg (w:List PV→(List PV→Prop)→Prop) (az:List PV) (K:PV→Prop):Prop :=
 match az with
 | [(.data p0)]=>w p0 (fun r0=>K (.data r0))
 | _=>False
def ywh (esz bytes:Nat) (az:List PV) (K:PV→Prop):Prop:=ywg (yEB esz bytes) az K
def yqX:yep→Nat→Option (Nat×Nat)
 | [],_=>none
 | (k,e,b)::r,n=>bif Nat.beq k n then some (e,b) else yqX r n
theorem yt1 {n esz bytes:Nat} {rows:List PV}:∀ (cl:yep),yqX cl n=some (esz,bytes)→yhE esz bytes rows=true→yfZ cl n [.data rows]=some (.data rows)
 | [],h,_=>by simp [yqX] at h
 | (k,e,b)::r,h,hk=>by
  simp only [yqX] at h
  simp only [yfZ]
  cases hb:Nat.beq k n with
  | true=>rw [hb] at h;simp only [cond_true,qAd,Prod.mk.injEq] at h;obtain ⟨rfl,rfl⟩:=h;simp only [cond_true,hk]
  | false=>rw [hb] at h;simp only [cond_false] at h ⊢;exact yt1 r h hk
theorem yGA {P:Program} {add sub:Nat} {tab:List (Nat×AFn)} {qui:List Nat} {cl:yep} {gl:List (Nat×PV)} (hm:P.follows .mixedOrders=true) (ha:IsExtern P add add64Entry) (hs:IsExtern P sub yv1) (ht:yvZ P tab)
  (hd:∀ n∈dnL qui,yJd P n) (hc:∀ n esz bytes,(n,esz,bytes)∈cl→∃ z,yvY tab n=some (ysP esz bytes z)):EO P (ymf add sub tab qui cl gl) where
 sum:=by
  intro n az r h
  simp only [ymf] at h
  split at h
  ·rename_i q hq;cases h;exact yEn ha hs n az _ hq
  ·exact (yt0 (yHF (qui:=[]) ha hs ht) hm (fun _ _ _=>rfl) (fun _=>rfl) cl (fun n e b hmem=>hc n e b hmem) n az r h).any
 fns:=fun n fn h=>yv0 tab ht n fn h
 eff:=fun _ _ _ _ _ _ _ h=>by cases h
 dn:=fun n h=>hd n (yEo h)
 top:=fun _ _=>rfl
 yl:=fun _ _ _ _ _ _ h=>by cases h
end Go.Pf
namespace Go.Pf
abbrev Ls:Type:=List PV
def O (d:Nat) (x:AOp):AO:=⟨some d,x,none⟩
def M (d s:Nat):AO:=⟨some d,.mv (.t s),none⟩
def I (n:Int):Opd:=.c (.int .i64 n)
def oX (d:Nat) (op:BinOp) (a b:Nat):AO:=⟨some d,.bin op (.t a) (.t b),none⟩
def oT (d sz a:Nat):AO:=⟨some d,.load true sz (.t a),none⟩
def oF (d sz a:Nat):AO:=⟨some d,.load false sz (.t a),none⟩
def oQ (l:List AO) (d:List Nat):TC:=.ops l [] [] d
abbrev OkF (E:Env) (wp:List PV→(PV→Prop)→Prop) (n:Nat):Prop:=∀ az K,wp az K→∃ r,K r∧Ans E n az r
abbrev OkL (E:Env) (wp:List PV→HB→(PV→List PV→Prop)→Prop) (n:Nat):Prop:=∀ az b K,wp az b K→∃ q rows,K q rows∧AnsL (Uni E) n az b q rows
abbrev OkS (E:Env) (wp:List PV→(PV→Prop)→Prop) (n:Nat):Prop:=∀ az K,wp az K→∃ r,K r∧AnsS E n az r
theorem OkF.solo {E:Env} {wp:List PV→(PV→Prop)→Prop} {n:Nat} (h:OkF E wp n):OkS E wp n:=fun az K k=>by
 obtain ⟨r,h1,h2⟩:=h az K k
 exact ⟨r,h1,h2.solo⟩
theorem AnsS.unique {E:Env} {n:Nat} {az:List PV} {r r':PV} (h:AnsS E n az r) (h':AnsS E n az r'):r=r':=by
 obtain ⟨m,hm⟩:=h
 obtain ⟨m',hm'⟩:=h'
 have e:=hm (m+m') E (m+m') (by omega) rfl (by omega)
 rw [hm' (m+m') E (m+m') (by omega) rfl (by omega)] at e
 exact (Option.some.inj e).symm
theorem detS {E:Env} {n:Nat} {wp:List PV→(PV→Prop)→Prop} (ok:OkS E wp n) {az:List PV} {x:PV}
  (h:∀ K:PV→Prop,K x→wp az K) {K:PV→Prop} (k:wp az K):K x:=by
 obtain ⟨r,h1,h2⟩:=ok az K k
 obtain ⟨q,h3,h4⟩:=ok az (fun y=>y=x) (h _ rfl)
 subst h3
 rw [← h2.unique h4]
 exact h1
theorem detC {E:Env} {n:Nat} {wp:List PV→(PV→Prop)→Prop} (ok:∀ az K,wp az K→∃ r,K r∧Ans E n az r) {az:List PV} {x:PV}
 (h:∀ K:PV→Prop,K x→wp az K) {K:PV→Prop} (k:wp az K):K x:=detS (OkF.solo ok) h k
end Go.Pf
namespace Go.Pf
open Go
inductive DS where
 | b
 | i (k:IntKind)
 | s (e:DS)
 | a (l:List DS)
def DS.isA:DS→Bool
 | .a _=>true
 | _=>false
def PV.isAgg:PV→Bool
 | .agg _=>true
 | _=>false
mutual
def HasF:DS→List PV→Prop
 | .b,c=>∃ x,c=[.bool x]
 | .i k,c=>∃ n,c=[.int k n]∧inK k n
 | .s e,c=>∃ rows:List PV,c=[.data rows]∧rows.length≤maxLen∧∀ x∈rows,x.isAgg=e.isA∧HasF e x.cells
 | .a l,c=>HasL l c
def HasL:List DS→List PV→Prop
 | [],c=>c=[]
 | d::l,c=>∃ c1 c2,c=c1++c2∧HasF d c1∧HasL l c2
end
mutual
def tyOk (P:Program):DS→TypeId→Bool
 | .b,t=>(match P.underlying t with | some .bool=>true | _=>false)
 | .i k,t=>(match P.underlying t with | some (.int q)=>decide (q=k) | _=>false)
 | .s e,t=>(match P.underlying t with | some (.slice u)=>decide (0<P.cellsOf u)&&tyOk P e u | _=>false)
 | .a l,t=>(match P.underlying t with | some (.struct fs)=>tyL P l (fs.toList.map (·.type)) | some (.array n u)=>tyL P l (List.replicate n u) | _=>false)
def tyL (P:Program):List DS→List TypeId→Bool
 | [],[]=>true
 | d::l,t::r=>tyOk P d t&&tyL P l r
 | _,_=>false
end
theorem yEC (P:Program):∀ (l:List DS) (ts:List TypeId),tyL P l ts=true→l.length=ts.length
 | [],[],_=>rfl
 | _::l,_::r,h=>by
  unfold tyL at h
  simp only [qAf] at h
  simp [yEC P l r h.2]
 | [],_::_,h=>by unfold tyL at h;cases h
 | _::_,[],h=>by unfold tyL at h;cases h
theorem yED (P:Program):∀ (l:List DS) (ts:List TypeId),tyL P l ts=true→∀ (j:Nat) d t,l[j]?=some d→ts[j]?=some t→tyOk P d t=true
 | [],[],_,_,_,_,h,_=>by simp at h
 | d::l,t::r,h,0,d',t',h1,h2=>by
  unfold tyL at h
  simp only [qAf] at h
  simp only [List.getElem?_cons_zero,qAd] at h1 h2
  subst h1;subst h2;exact h.1
 | d::l,t::r,h,j+1,d',t',h1,h2=>by
  unfold tyL at h
  simp only [qAf] at h
  exact yED P l r h.2 j d' t' (by simpa using h1) (by simpa using h2)
 | [],_::_,h,_,_,_,_,_=>by unfold tyL at h;cases h
 | _::_,[],h,_,_,_,_,_=>by unfold tyL at h;cases h
section
variable {H:Type} {enc:TypeId×Value→H} {P:Program} {w:World} {I:Nat→Prop}
theorem yDo {l1 l2:List PV} {v1 v2:List Value} (h1:yaM I w l1 v1) (h2:yaM I w l2 v2):yaM I w (l1++l2) (v1++v2):=yjO h1 h2
def yIl (enc:TypeId×Value→H) (P:Program) (w:World) (I:Nat→Prop) (n:Nat):Prop :=
 ∀ (d:DS) (t:TypeId) (cs:List Value) (x:DataW H×List MemPlace),t<P.types.size→tyOk P d t=true→DataW.trod enc P w 0 (fun _=>true) true n t cs=some x→(∀ p∈x.2,I p.block)→∃ pcs,HasF d pcs∧yaM I w pcs cs
theorem ywi {n:Nat} (ih:yIl enc P w I n) {l:List DS} {ts:List TypeId} (hl:tyL P l ts=true) (hrow:∀ t∈ts,t<P.types.size) {cs:List Value} {xs:List (DataW H×List MemPlace)} (off:Nat→Nat)
  (hoff:∀ j t,ts[j]?=some t→off (j+1)=off j+P.cellsOf t) (hend:cs.length≤off ts.length) (hx:∀ j t,ts[j]?=some t→DataW.trod enc P w 0 (fun _=>true) true n t ((cs.drop (off j)).take (P.cellsOf t))=xs[j]?)
  (hxl:xs.length=ts.length) (hI:∀ p∈xs.flatMap (·.2),I p.block) :
  ∀ (r j:Nat),j+r=ts.length→∃ pcs,HasL (l.drop j) pcs∧yaM I w pcs (cs.drop (off j)):=by
 have hll:=yEC P l ts hl
 intro r
 induction r with
 | zero =>
  intro j hj
  refine ⟨[],?_,?_⟩
  ·rw [qBe (by omega)];simp only [HasL]
  ·rw [qBe (by rw [show j=ts.length by omega];exact hend)];simp only [yaM]
 | succ r ihr =>
  intro j hj
  obtain ⟨pcs,h1,h2⟩:=ihr (j+1) (by omega)
  have ht:ts[j]?=some ts[j]:=qAc (by omega)
  have hd:l[j]?=some l[j]:=qAc (by omega)
  have hxj:xs[j]?=some xs[j]:=qAc (by omega)
  have h:=hx j _ ht
  rw [hxj] at h
  obtain ⟨pc,k1,k2⟩:=ih l[j] ts[j] _ _ (hrow _ (qBl _)) (yED P l ts hl j _ _ hd ht) h (fun p hp=>hI p (List.mem_flatMap.2 ⟨xs[j],qBl _,hp⟩))
  refine ⟨pc++pcs,?_,?_⟩
  ·rw [List.drop_eq_getElem_cons (by omega)]
   simp only [HasL]
   exact ⟨pc,pcs,rfl,k1,h1⟩
  ·have e:cs.drop (off j)=(cs.drop (off j)).take (P.cellsOf ts[j])++cs.drop (off (j+1)):=by
    rw [hoff j _ ht,← List.drop_drop,List.take_append_drop]
   rw [e]
   exact yDo k2 h2
theorem yIP {d:DS} {pcs:List PV} (h:HasF d pcs):∃ x:PV,x.isAgg=d.isA∧x.cells=pcs∧∀ vs,yaM I w pcs vs→RC I w x vs:=by
 have one:∀ y:PV,y.isAgg=false→pcs=[y]→d.isA=false→∃ x:PV,x.isAgg=d.isA∧x.cells=pcs∧∀ vs,yaM I w pcs vs→RC I w x vs:=by
  intro y hy e hd
  refine ⟨y,hy.trans hd.symm,?_,?_⟩
  ·subst e;cases y <;> first | rfl | cases hy
  ·intro vs hv
   subst e
   simp only [yaM] at hv
   obtain ⟨v,vr,rfl,_,h1,rfl⟩:=hv
   exact h1
 cases d with
 | b=>simp only [HasF] at h;obtain ⟨x,e⟩:=h;exact one _ rfl e rfl
 | i k=>simp only [HasF] at h;obtain ⟨x,e,_⟩:=h;exact one _ rfl e rfl
 | s e=>simp only [HasF] at h;obtain ⟨x,e,_⟩:=h;exact one _ rfl e rfl
 | a l=>exact ⟨.agg pcs,rfl,rfl,fun vs hv=>by simp only [RC];exact hv⟩
theorem yDp (K:Kids P (·<P.types.size)):∀ n,yIl enc P w I n:=by
 intro n
 induction n with
 | zero=>intro d t cs x _ _ h;simp [DataW.trod] at h
 | succ n ih =>
  intro d t cs x hrow hty h hI
  cases d with
  | b =>
   unfold tyOk at hty
   split at hty
   ·rename_i ht
    obtain ⟨b,rfl,_⟩:=DataW.trod_bool ht h
    refine ⟨[.bool b],by simp only [HasF];exact ⟨b,rfl⟩,?_⟩
    simp only [yaM,RC]
    exact ⟨_,_,rfl,rfl,rfl,rfl⟩
   ·cases hty
  | i k =>
   unfold tyOk at hty
   split at hty
   ·rename_i q ht
    simp only [decide_eq_true_eq] at hty
    subst hty
    obtain ⟨m,rfl,_,hw⟩:=DataW.trod_int ht h
    have hk:inK q m:=by
     unfold inK
     simpa [Lit.wf] using hw
    refine ⟨[.int q m],by simp only [HasF];exact ⟨m,rfl,hk⟩,?_⟩
    simp only [yaM,RC]
    exact ⟨_,_,rfl,rfl,⟨rfl,hk⟩,rfl⟩
   ·cases hty
  | s e =>
   unfold tyOk at hty
   split at hty
   ·rename_i u ht
    simp only [qAf,decide_eq_true_eq] at hty
    obtain ⟨hpos,hty⟩:=hty
    rcases DataW.trod_slice ht h with ⟨rfl,_⟩ | ⟨a,len,cap,elems,rest,m,hm,rfl,rfl,_,hle,hcap,hlen,hel,_⟩
    ·refine ⟨[.data []],?_,?_⟩
     ·simp only [HasF];exact ⟨[],rfl,by simp,by simp⟩
     ·simp only [yaM,RC]
      exact ⟨_,_,rfl,rfl,⟨none,0,0,rfl,rfl,by omega,by decide,by simp⟩,rfl⟩
    ·have hmn:m=n:=by omega
     subst hmn
     have hru:=K.slice hrow ht
     have hspot0:len≠0→a.spot=none:=by
      intro h0
      have hb:=hel 0 (by omega)
      rw [qAc (by omega)] at hb
      obtain ⟨cs',hc,hy⟩:=Option.bind_eq_some_iff.1 hb
      obtain ⟨_,hcl,hcg⟩:=World.cells?_some hc
      have h0:=hcg 0 hpos
      rw [qAc (by omega)] at h0
      have e0:(a.add (0*P.cellsOf u)).add 0=a:=by simp [Addr.add]
      rw [e0] at h0
      unfold World.cell? at h0
      split at h0
      ·split at h0
       ·cases h0
       ·rename_i hs;simpa using hs
      ·cases h0
     have hadd:a.spot=none→∀ k i:Nat,(a.add k).add i=⟨a.block,a.off+k+i,none⟩:=by
      intro hs k i
      obtain ⟨ab,ao,az⟩:=a
      simp only at hs
      subst hs
      simp only [Addr.add]
      by_cases h1:k=0 <;> by_cases h2:i=0 <;> simp [h1,h2,Nat.add_assoc]
     have ygr:∀ (r j:Nat),j+r=len→∃ rows:List PV,rows.length=r∧(∀ x∈rows,x.isAgg=e.isA∧HasF e x.cells)∧(r≠0→a.spot=none∧I a.block)∧ybP I w rows (P.cellsOf u) a.block (a.off+j*P.cellsOf u):=by
      intro r
      induction r with
      | zero=>intro j _;exact ⟨[],rfl,by simp,fun h=>absurd rfl h,by simp only [ybP]⟩
      | succ r ihr =>
       intro j hj
       obtain ⟨rows,l1,l2,_,l4⟩:=ihr (j+1) (by omega)
       have hj2:j<elems.length:=by omega
       have hb:=hel j (by omega)
       rw [qAc hj2] at hb
       obtain ⟨cs',hc,hy⟩:=Option.bind_eq_some_iff.1 hb
       obtain ⟨_,hcl,hcg⟩:=World.cells?_some hc
       obtain ⟨pcs,k1,k2⟩:=ih e u cs' _ hru hty hy (fun p hp=>hI p (by
        simp only [qA4,List.mem_flatMap]
        exact .inr ⟨elems[j],.inl (qBl _),hp⟩))
       obtain ⟨x,x1,x2,x3⟩:=yIP (I:=I) (w:=w) k1
       have hspot:=hspot0 (by omega)
       have hIa:I a.block:=hI (.cell a.block a.off) (by
        simp only [qA4]
        left
        exact MemPlace.mem_row.2 ⟨0,Nat.mul_pos (by omega) hpos,rfl⟩)
       refine ⟨x::rows,by simp [l1],?_,fun _=>⟨hspot,hIa⟩,?_⟩
       ·intro y hy
        rcases qAv.1 hy with rfl | hy
        ·exact ⟨x1,by rw [x2];exact k1⟩
        ·exact l2 y hy
       ·simp only [ybP]
        refine ⟨⟨cs',hcl,x3 _ k2,?_⟩,?_⟩
        ·intro i v hi
         have hi2:i<P.cellsOf u:=by rw [← hcl];exact (qBx.1 hi).1
         have:=hcg i hi2
         rw [hi] at this
         rw [← this,hadd hspot]
        ·rw [Nat.add_assoc,show j*P.cellsOf u+P.cellsOf u=(j+1)*P.cellsOf u by rw [qAq,qBf]]
         exact l4
     obtain ⟨rows,l1,l2,l3,l4⟩:=ygr len 0 (by omega)
     refine ⟨[.data rows],?_,?_⟩
     ·simp only [HasF];exact ⟨rows,rfl,by omega,l2⟩
     ·simp only [yaM,RC]
      refine ⟨_,_,rfl,rfl,⟨some a,len,cap,rfl,l1.symm,hle,hcap,?_⟩,rfl⟩
      by_cases h0:len=0
      ·left;exact qBs (by omega)
      ·right
       obtain ⟨hs,hIa⟩:=l3 h0
       refine ⟨a.block,a.off,P.cellsOf u,?_,hIa,hpos,by simpa using l4⟩
       cases a;simp only at hs;subst hs;rfl
   ·cases hty
  | a l =>
   unfold tyOk at hty
   split at hty
   ·rename_i fs ht
    obtain ⟨xs,m,hm,rfl,hcl,hxl,hxs⟩:=DataW.trod_struct ht h
    have hmn:m=n:=by omega
    subst hmn
    obtain ⟨k1,k2,k3⟩:=K.struct hrow ht
    have:=ywi ih (l:=l) (ts:=fs.toList.map (·.type)) hty (fun t ht=>by obtain ⟨f,hf,rfl⟩:=List.mem_map.1 ht;exact k1 f hf) (cs:=cs) (xs:=xs) (fun j=>((fs.toList.take j).map fun f=>P.cellsOf f.type).sum)
     (fun j t hj=>by
      rw [qBc,qA3] at hj
      obtain ⟨f,hf,rfl⟩:=hj
      obtain ⟨hlt,hf2⟩:=qBx.1 hf
      show ((fs.toList.take (j+1)).map _).sum=_
      rw [List.take_add_one,hf]
      simp)
     (by simp only [qAe,List.take_length];rw [hcl,k2];exact qAj _)
     (fun j t hj=>by
      rw [qBc,qA3] at hj
      obtain ⟨f,hf,rfl⟩:=hj
      have:=hxs j f (by simpa using hf)
      rw [← this,k3 j f hf])
     (by simp [hxl]) hI (fs.toList.map (·.type)).length 0 (by omega)
    obtain ⟨pcs,p1,p2⟩:=this
    exact ⟨pcs,by simp only [HasF];exact p1,by simpa using p2⟩
   ·rename_i q u ht
    obtain ⟨xs,m,hm,rfl,hcl,hxl,hxs⟩:=DataW.trod_array ht h
    have hmn:m=n:=by omega
    subst hmn
    obtain ⟨k1,k2⟩:=K.array hrow ht
    have:=ywi ih (l:=l) (ts:=List.replicate q u) hty (fun t ht=>by rw [(List.mem_replicate.1 ht).2];exact k1) (cs:=cs) (xs:=xs) (fun j=>j*P.cellsOf u)
     (fun j t hj=>by
      have:t=u:=(List.mem_replicate.1 (List.mem_of_getElem? hj)).2
      subst this
      show (j+1)*_=_
      rw [qAq,qBf])
     (by rw [qA9,hcl,k2];exact qAj _)
     (fun j t hj=>by
      have e:t=u:=(List.mem_replicate.1 (List.mem_of_getElem? hj)).2
      subst e
      have hlt:j<q:=by have:=(qBx.1 hj).1;simpa using this
      exact hxs j hlt)
     (by simp [hxl]) hI (List.replicate q u).length 0 (by omega)
    obtain ⟨pcs,p1,p2⟩:=this
    exact ⟨pcs,by simp only [HasF];exact p1,by simpa using p2⟩
   ·cases hty
end
end Go.Pf
namespace Go.Pf
open Go Go.ChangeShapes Go.WideShapes Go.ChangeAt Go.RowKit
def yqY:List DS→List PV→Prop
 | [],az=>az=[]
 | d::l,az=>∃ x r,az=x::r∧x.isAgg=d.isA∧HasF d x.cells∧yqY l r
section
variable {H:Type} {enc:TypeId×Value→H} {P:Program}
theorem yGB (K:Kids P (·<P.types.size)) {w:World} {I:Nat→Prop} {base:Nat} {d:DS} {t:TypeId} {v:Value} {x:DataW H} {p:List MemPlace} (hrow:t<P.types.size) (hty:tyOk P d t=true)
  (hval:Value.okWide P w .any base t v) (h:DataW.Trod enc P w 0 (fun _=>true) true t v x p) (hI:∀ q∈p,I q.block) :
  ∃ y:PV,y.isAgg=d.isA∧HasF d y.cells∧VP1 I w y v:=by
 obtain ⟨n,hn⟩:=h
 obtain ⟨pcs,h1,h2⟩:=yDp (I:=I) K n d t _ _ hrow hty hn hI
 have single:∀ y:PV,pcs=[y]→y.isAgg=false→d.isA=false→v.cells.toList=[v]→∃ y:PV,y.isAgg=d.isA∧HasF d y.cells∧VP1 I w y v:=by
  intro y e hy hd hv
  subst e
  refine ⟨y,hy.trans hd.symm,?_,?_⟩
  ·have:y.cells=[y]:=by cases y <;> first | rfl | cases hy
   rw [this];exact h1
  ·rw [hv] at h2
   simp only [yaM] at h2
   obtain ⟨u,vr,e,_,h3,h4⟩:=h2
   simp only [qA1] at e
   obtain ⟨rfl,_⟩:=e
   cases y <;> first | exact h3 | (simp only [RC] at h3;done) | (simp only [VP1];exact h3) | cases hy
 cases d with
 | b =>
  unfold tyOk at hty
  split at hty
  ·rename_i ht
   obtain ⟨b,rfl⟩:=okWide_bool ht hval
   simp only [HasF] at h1
   obtain ⟨z,e⟩:=h1
   exact single _ e rfl rfl rfl
  ·cases hty
 | i k =>
  unfold tyOk at hty
  split at hty
  ·rename_i q ht
   obtain ⟨m,rfl⟩:=okWide_int ht hval
   simp only [HasF] at h1
   obtain ⟨z,e,_⟩:=h1
   exact single _ e rfl rfl rfl
  ·cases hty
 | s e =>
  unfold tyOk at hty
  split at hty
  ·rename_i u ht
   obtain ⟨a,len,cap,rfl⟩:=okWide_slice ht hval
   simp only [HasF] at h1
   obtain ⟨z,e,_⟩:=h1
   exact single _ e rfl rfl rfl
  ·cases hty
 | a l =>
  have key:∀ cs,v=.agg cs→∃ y:PV,y.isAgg=(DS.a l).isA∧HasF (DS.a l) y.cells∧VP1 I w y v:=by
   rintro cs rfl
   refine ⟨.agg pcs,rfl,h1,?_⟩
   simp only [VP1]
   exact ⟨cs.toList,rfl,h2⟩
  unfold tyOk at hty
  split at hty
  ·rename_i fs ht
   obtain ⟨cs,e,_⟩:=okWide_struct ht hval
   exact key cs e
  ·rename_i q u ht
   have hval2:=hval
   unfold Value.okWide at hval2
   rw [ht] at hval2
   obtain ⟨cs,e,_⟩:=hval2
   exact key cs e
  ·cases hty
theorem yyO (K:Kids P (·<P.types.size)) {w:World} {I:Nat→Prop} {base:Nat}:∀ (ts:List TypeId) (dss:List DS) (vs:List Value) (xs:List (DataW H)) (p:List MemPlace),tyL P dss ts=true→(∀ t∈ts,t<P.types.size) →
  (∀ (j:Nat) t v,ts[j]?=some t→vs[j]?=some v→Value.okWide P w .any base t v)→DataW.TrodAll enc P w 0 (fun _=>true) true ts vs xs p→(∀ q∈p,I q.block)→∃ az,yqY dss az∧VPs I w az vs
 | [],[],[],[],p,_,_,_,_,_=>⟨[],by simp only [yqY],by simp only [VPs]⟩
 | t::ts,d::dss,v::vs,x::xs,p,hty,hrow,hval,h,hI=>by
  unfold tyL at hty
  simp only [qAf] at hty
  obtain ⟨p1,q,h1,h2,rfl⟩:=h
  obtain ⟨y,y1,y2,y3⟩:=yGB K (hrow t (qAt ..)) hty.1 (hval 0 t v rfl rfl) h1 (fun z hz=>hI z (List.mem_append_left _ hz))
  obtain ⟨az,a1,a2⟩:=yyO K ts dss vs xs q hty.2 (fun u hu=>hrow u (qAk _ hu)) (fun j u z hj hz=>hval (j+1) u z hj hz) h2 (fun z hz=>hI z (List.mem_append_right _ hz))
  refine ⟨y::az,?_,?_⟩
  ·simp only [yqY];exact ⟨y,az,rfl,y1,y2,a1⟩
  ·simp only [VPs];exact ⟨v,vs,rfl,y3,a2⟩
 | [],_::_,_,_,_,hty,_,_,_,_=>by unfold tyL at hty;cases hty
 | _::_,[],_,_,_,hty,_,_,_,_=>by unfold tyL at hty;cases hty
 | [],[],_::_,_,_,_,_,_,h,_=>h.elim
 | [],[],[],_::_,_,_,_,_,h,_=>h.elim
 | _::_,_::_,[],_,_,_,_,_,h,_=>h.elim
 | _::_,_::_,_::_,[],_,_,_,_,h,_=>h.elim
theorem yFn (K:Kids P (·<P.types.size)) {n:FuncId} {fn:Func} {G:Nat→Option PV} {dss:List DS} {ts:List TypeId} (hty:tyL P dss ts=true) (hrow:∀ t∈ts,t<P.types.size)
  (hf : P.funcs[n]? = some fn) (hn : (fn.name == "runtime.NumGoroutine") = false) (hb : fn.body.isSome = true) (hsum : ∀ az, yqY dss az → ymc P G n az (.bool true))
  {W:World} {base:Nat} {args:Array Value} {ds:List (DataW H)} {p:List MemPlace} {I:Nat→Prop} (hval:∀ (j:Nat) t v,ts[j]?=some t→args.toList[j]?=some v→Value.okWide P W .any base t v)
  (hA:DataW.TrodAll enc P W 0 (fun _=>true) true ts args.toList ds p) (hI:∀ q∈p,I q.block) (himm:∀ b,I b→b<W.heap.size) (hG:yCY G I W) :
  Calls P n args W fun e W'=>e=.returned (.bool true)∧Below W.heap.size W W':=by
 obtain ⟨az,a1,a2⟩:=yyO (I:=I) K ts dss args.toList ds p hty hrow hval hA hI
 have h:=hsum az a1 I W args.toList himm hG a2
 have e:(callFunc n (args.toList).toArray).run P W=.ok (.enter n args) W:=by
  have h1 : fn.name ≠ "runtime.NumGoroutine" := by simpa using hn
  obtain ⟨c,hc⟩:=Option.isSome_iff_exists.1 hb
  simp [callFunc,hf,h1,hc]
 unfold yig at h
 rw [e] at h
 refine Calls.mono h fun e w' he=>?_
 cases e with
 | returned v =>
  obtain ⟨h1,h2⟩:=he
  simp only [VP,VP1,RC,qA1,and_true] at h2
  exact ⟨by rw [h2],h1.toBelow⟩
 | panicked ch=>exact he.elim
 | outgrown=>exact he.elim
theorem yDq (K:Kids P (·<P.types.size)) (hz:∀ t e,t<P.types.size→P.underlying t=some (.slice e)→0<P.cellsOf e) {W W':World} (hb:Below W.heap.size W W') {sp:Nat→Bool} :
  ∀ {ts:List TypeId} {vs:List Value} {ds:List (DataW H)} {ps:List MemPlace},(∀ t∈ts,t<P.types.size)→DataW.TrodAll enc P W 0 (fun _=>true) true ts vs ds ps→(∀ p∈ps,p.block<W.heap.size)→(∀ p∈ps,sp p.block=true)→DataW.TrodAll enc P W' 0 sp true ts vs ds ps:=by
 intro ts vs ds ps hT h hlt hs
 have carry:∀ {ts:List TypeId} {vs:List Value} {ds:List (DataW H)} {ps:List MemPlace},DataW.TrodAll enc P W 0 (fun _=>true) true ts vs ds ps→(∀ p∈ps,p.block<W.heap.size)→DataW.TrodAll enc P W' 0 (fun _=>true) true ts vs ds ps:=by
  intro ts
  induction ts with
  | nil =>
   intro vs ds ps h _
   cases vs with
   | nil=>cases ds with
    | nil=>exact h
    | cons _ _=>exact h.elim
   | cons _ _=>exact h.elim
  | cons t ts ih =>
   intro vs ds ps h hlt
   cases vs with
   | nil=>exact h.elim
   | cons v vs=>cases ds with
    | nil=>exact h.elim
    | cons d ds =>
     obtain ⟨p,q,⟨n,h1⟩,h2,e⟩:=h
     subst e
     exact ⟨p,q,⟨n,DataW.trod_carry n _ _ _ h1 (fun x hx=>hb.same (hlt x (List.mem_append_left _ hx)))⟩,ih h2 (fun x hx=>hlt x (List.mem_append_right _ hx)),rfl⟩
 exact DataW.TrodAll.respare K hz hT (carry h hlt) hs
theorem ywj {f:Func} {s:ChangeSpec} {yh5 fresh handsOn again:Bool} {W W':World} {args:Array Value} {v:Value} {ds gs:List (DataW H)} {before pa pv:List MemPlace}
  (hW:DataW.Whole enc P f.params.toList s.vars yh5 W args.toList ds gs before)
  (hres:∀ (b:Nat) (sp:Nat→Bool) (hd:Bool),DataW.TrodAll enc P W' b sp hd f.resultTypes.toList (v.resultList f.resultTypes.size) (s.fn H (ds++gs)).results [])
  (hargs:∀ sp:Nat→Bool,(∀ p∈before,sp p.block=true)→DataW.TrodAll enc P W' 0 sp true f.params.toList args.toList (s.fn H (ds++gs)).args pa)
  (hvars:∀ sp:Nat→Bool,(∀ p∈before,sp p.block=true)→DataW.TrodVars enc P W' sp s.vars (s.fn H (ds++gs)).vars pv)
  (hps:before=pa++pv) (hb:Below W.heap.size W W')
  (hok:∀ (j:Nat) (t:TypeId) (r:Value),f.resultTypes[j]?=some t→(v.resultList f.resultTypes.size)[j]?=some r→Value.okWide P W' .any 0 t r) :
  s.post enc P f yh5 fresh handsOn again W args v W':=by
 have hlt:∀ p∈before,p.block<W.heap.size:=fun p hp=>hW.lt p hp
 have hold:∀ p∈before,(fun b=>decide (b<W.heap.size)) p.block=true:=fun p hp=>by simpa using hlt p hp
 refine ⟨ds,gs,before,[],pa,pv,hW,hres _ _ _,hargs _ hold,hvars _ hold,World.keptBut_mono (fun p hp=>⟨hp,?_⟩) (hb.frame (·∈before)),fun _=>?_⟩
 ·rw [hps,qA4] at hp
  exact Or.inr hp
 ·obtain ⟨_,_,_,_,_,hz,hn⟩:=hW
  refine ⟨hok,_,_,([]++pa)++pv,⟨[]++pa,pv,trodAll_append (hargs _ (fun _ _=>rfl)) (hres _ _ _),hvars _ (fun _ _=>rfl),rfl,?_,?_⟩,?_⟩
  ·intro b off hp
   have hin:MemPlace.cell b off∈before:=by rw [hps];simpa using hp
   rw [hb.frozen (hlt _ hin)]
   exact hz b off hin
  ·intro ha
   have:=hn ha
   rw [hps] at this
   simpa using this
  ·intro p hp _
   rw [hps]
   simpa using hp
theorem yGC (K:Kids P (·<P.types.size)) (hz:∀ t e,t<P.types.size→P.underlying t=some (.slice e)→0<P.cellsOf e) {n:FuncId} {fn:Func} {G:Nat→Option PV} {dss:List DS} {s:ChangeSpec} {bt:TypeId}
  (hty : tyL P dss fn.params.toList = true) (hrow : ∀ t ∈ fn.params.toList, t < P.types.size) (hf : P.funcs[n]? = some fn) (hn : (fn.name == "runtime.NumGoroutine") = false) (hb : fn.body.isSome = true)
  (hvars:s.vars=[]) (hfn:∀ ds:List (DataW H),ds.length=fn.params.toList.length→s.fn H (ds++[])={ results:=[.lit (.bool true)],args:=ds })
  (hrt:fn.resultTypes.toList=[bt]) (hbt:P.underlying bt=some .bool) (hsum:∀ az,yqY dss az→ymc P G n az (.bool true)) {yh5 fresh handsOn again:Bool}
  {W:World} {base:Nat} {args:Array Value} {ds gs:List (DataW H)} {before:List MemPlace} (hval:∀ (j:Nat) t v,fn.params[j]?=some t→args[j]?=some v→Value.okWide P W .any base t v)
  (hW:DataW.Whole enc P fn.params.toList s.vars yh5 W args.toList ds gs before) (J:Nat→Prop) (hJ:∀ b,J b→b<W.heap.size) (hG:yCY G (fun b=>(∃ p∈before,p.block=b)∨J b) W) :
  Calls P n args W fun e W'=>∃ v,e=.returned v∧s.post enc P fn yh5 fresh handsOn again W args v W':=by
 have hW':=hW
 obtain ⟨p,q,hA,hV,hpq,hfz,hnd⟩:=hW
 have hlt:∀ x∈before,x.block<W.heap.size:=fun x hx=>hW'.lt x hx
 rw [hvars] at hV
 obtain ⟨hgs,hq⟩:=trodVars_none hV
 subst hgs;subst hq
 rw [qBt] at hpq
 subst hpq
 have hlen:ds.length=fn.params.toList.length:=by
  have len:∀ {ts:List TypeId} {vs:List Value} {xs:List (DataW H)} {ps:List MemPlace},DataW.TrodAll enc P W 0 (fun _=>true) true ts vs xs ps→xs.length=ts.length:=by
   intro ts
   induction ts with
   | nil =>
    intro vs xs ps h
    cases vs with
    | nil=>cases xs with
     | nil=>rfl
     | cons _ _=>exact h.elim
    | cons _ _=>exact h.elim
   | cons t ts ih =>
    intro vs xs ps h
    cases vs with
    | nil=>exact h.elim
    | cons v vs=>cases xs with
     | nil=>exact h.elim
     | cons x xs =>
      obtain ⟨_,_,_,h2,_⟩:=h
      simp [ih h2]
  exact len hA
 have hc:=yFn (I:=fun b=>(∃ x∈before,x.block=b)∨J b) K hty hrow hf hn hb hsum (W:=W) (base:=base) (args:=args) (fun j t v h1 h2=>hval j t v (by simpa using h1) (by simpa using h2)) hA (fun x hx=>.inl ⟨x,hx,rfl⟩)
  (fun b hb=>by
   rcases hb with ⟨x,hx,rfl⟩ | hb
   ·exact hlt x hx
   ·exact hJ b hb) hG
 refine hc.mono fun e W' ⟨he,hg⟩=>?_
 subst he
 have hrs:fn.resultTypes=#[bt]:=by rw [← qBr];exact hrt
 refine ⟨_,rfl,ywj (pa:=before) (pv:=[]) hW' ?_ ?_ ?_ (by simp) hg ?_⟩
 ·intro b sp hd
  rw [hfn ds hlen,hrs]
  exact trodAll_mk1 (shut_bool hbt true)
 ·intro sp hs
  rw [hfn ds hlen]
  exact yDq K hz hg hrow hA hlt hs
 ·intro sp hs
  rw [hfn ds hlen,hvars];rfl
 ·intro j t r h1 h2
  rw [hrs] at h1 h2
  have hj:j=0:=by
   rcases j with _ | j
   ·rfl
   ·simp at h1
  subst hj
  simp at h1
  subst h1
  have:r=.bool true:=by
   have h3:((Value.bool true).resultList (#[bt]:Array TypeId).size)[0]?=some (.bool true):=rfl
   rw [h3] at h2
   exact (Option.some.inj h2).symm
  subst this
  exact okWide_bool_mk hbt true
end
end Go.Pf
namespace Go.Pf
open Go
abbrev EffF:Type:=Nat→List PV→Hp→Option (Bool×Bool×(PV×Hp)×(PV×Hp))
def yBM:List (Nat×EffF)→EffF
 | [],_,_,_=>none
 | (k,e)::r,n,xs,H=>bif Nat.beq n k then (match e n xs H with | some x=>some x | none=>yBM r n xs H) else yBM r n xs H
theorem ymQ {P:Program} {E:Env}:∀ {l:List (Nat×EffF)},(∀ e∈l,ybq P E (fun n xs H=>ytI (e.2 n xs H)))→ybq P E (fun n xs H=>ytI (yBM l n xs H))
 | [],_=>fun _ _ _ _ _ h=>by cases h
 | (k,e)::r,h=>by
  intro f args H q H' hc
  dsimp only [yBM] at hc
  cases hb:Nat.beq f k with
  | false =>
   rw [hb,cond_false] at hc
   exact ymQ (fun e2 h2=>h e2 (qAk _ h2)) f args H q H' hc
  | true =>
   rw [hb,cond_true] at hc
   cases he:e f args H with
   | some x =>
    rw [he] at hc
    refine h (k,e) qAt f args H q H' ?_
    dsimp only
    rw [he]
    exact hc
   | none =>
    rw [he] at hc
    exact ymQ (fun e2 h2=>h e2 (qAk _ h2)) f args H q H' hc
def ymR (add sub:Nat) (tab:List (Nat×AFn)) (qui:List Nat) (cl:yep) (gl:List (Nat×PV)) (ef:List (Nat×EffF)):Env:={ ymf add sub tab qui cl gl with eff:=yBM ef }
theorem ybo {add sub:Nat} {tab:List (Nat×AFn)} {qui:List Nat} {cl:yep} {gl:List (Nat×PV)} {ef:List (Nat×EffF)} {n:Nat} (h:yvd add sub cl n=false) (xs:List PV):(ymR add sub tab qui cl gl ef).sum n xs=none:=yDn (tab:=tab) (qui:=qui) (gl:=gl) h xs
theorem yGD {P:Program} {add sub:Nat} {tab:List (Nat×AFn)} {qui:List Nat} {cl:yep} {gl:List (Nat×PV)} {ef:List (Nat×EffF)} (h:EO P (ymf add sub tab qui cl gl))
  (hs:∀ e∈ef,∀ y,ybq P ((ymf add sub tab qui cl gl).ats y) (fun n xs H=>ytI (e.2 n xs H))):EO P (ymR add sub tab qui cl gl ef) where
 sum:=h.sum
 fns:=h.fns
 eff:=EO.eff' (E:=ymf add sub tab qui cl gl) (E':=ymR add sub tab qui cl gl ef) rfl rfl rfl fun y _=>ymQ fun e he=>hs e he y
 dn:=h.dn
 top:=h.top
 yl:=h.yl' (E':=ymR add sub tab qui cl gl ef) rfl rfl rfl rfl
end Go.Pf
namespace Go.Pf
abbrev lt {α:Type} (x:α) (f:α→Prop):Prop:=f x
abbrev jn {α:Type} (f:α→Prop) (k:α):Prop:=f k
structure EffG (E:List (Nat×EffF)→Env) (nums:List Nat) (e:List (Nat×EffF)):Prop where
 ok:yGx (E e)
 num:∀ n,memN nums n=false→∀ xs H,(E e).eff n xs H=none
theorem yFo {add sub:Nat} {tab:List (Nat×AFn)} {qui:List Nat} {cl:yep} {gl:List (Nat×PV)} {ef:List (Nat×EffF)} {n esz bytes:Nat} (h1:Nat.beq n add=false) (h2:Nat.beq n sub=false) (hc:yqX cl n=some (esz,bytes)) :
  ∀ az K,ywh esz bytes az K→∃ r,K r∧Ans (ymR add sub tab qui cl gl ef) n az r:=by
 intro az K h
 unfold ywh ywg at h
 split at h
 ·rename_i rows
  obtain ⟨hk,h⟩:=yat.1 h
  refine ⟨_,h,0,fun k e m _ hl _=>?_⟩
  have hl:=(yfX hl).2.1
  simp only [ydj,hl,ymR,ymf,yyN h1 h2,yt1 cl hc hk]
 ·exact h.elim
theorem yFp {add sub:Nat} {tab:List (Nat×AFn)} {qui:List Nat} {cl:yep} {gl:List (Nat×PV)} {ef:List (Nat×EffF)}:∀ az K,ypk az K→∃ r,K r∧Ans (ymR add sub tab qui cl gl ef) add az r:=by
 intro az K h
 unfold ypk ypj at h
 split at h
 ·rename_i a b c
  obtain ⟨h1,h⟩:=yat.1 h
  have h1:c.toNat≤1:=by simpa using h1
  refine ⟨_,h,0,fun k e m _ hl _=>?_⟩
  have hl:=(yfX hl).2.1
  have e0:sumC add sub add [.int .u64 a,.int .u64 b,.int .u64 c]=some (.tup [u64 ((a.toNat+b.toNat+c.toNat) % 18446744073709551616),u64 ((a.toNat+b.toNat+c.toNat) / 18446744073709551616)]):=by
   simp only [sumC,Nat.beq_refl,Bool.true_and,Nat.ble_eq_true_of_le h1,cond_true]
  simp only [ydj,hl,ymR,ymf,e0,u64]
 ·exact h.elim
theorem yFq {add sub:Nat} (hne:Nat.beq sub add=false) {tab:List (Nat×AFn)} {qui:List Nat} {cl:yep} {gl:List (Nat×PV)} {ef:List (Nat×EffF)}:∀ az K,ypm az K→∃ r,K r∧Ans (ymR add sub tab qui cl gl ef) sub az r:=by
 intro az K h
 unfold ypm ypl at h
 split at h
 ·rename_i a b c
  obtain ⟨h1,h⟩:=yat.1 h
  have h1:c.toNat≤1:=by simpa using h1
  refine ⟨_,h,0,fun k e m _ hl _=>?_⟩
  have hl:=(yfX hl).2.1
  have e0:sumC add sub sub [.int .u64 a,.int .u64 b,.int .u64 c]=some (.tup [u64 ((a.toNat+18446744073709551616-b.toNat-c.toNat) % 18446744073709551616),u64 (bif Nat.ble (b.toNat+c.toNat) a.toNat then 0 else 1)]):=by
   simp only [sumC,hne,Nat.beq_refl,Bool.true_and,Bool.false_and,Nat.ble_eq_true_of_le h1,cond_true,cond_false]
  simp only [ydj,hl,ymR,ymf,e0,u64]
 ·exact h.elim
abbrev Es:Type:=List (Nat×EffF)
def okB:Option Bool→Prop | none=>True | some b=>b=true
def asB:Option Bool→Prop→Prop | none,x=>x | some b,x=>asr b x
theorem yve {g:Option Bool} {x:Prop}:asB g x↔okB g∧x:=by cases g <;> simp [asB,okB,yat]
def blen (H:Hp) (id:Nat):Nat:=match H[id]? with | some b=>b.rows.length | none=>0
structure Pat (α:Type) where
 T:Type
 A:Type→Type
 app:{R:Type}→A R→T→R
 of:(Nat→Nat)→T→α
 get:(Nat→Nat)→α→Option Bool→Option (T×Option Bool)
 inv:∀ {H x g t g'},get H x g=some (t,g')→okB g'→okB g∧x=of H t
section
variable {α β:Type}
def pAt:Pat α:=⟨α,fun R=>α→R,fun g t=>g t,fun _ t=>t,fun _ x g=>some (x,g),fun h k=>by cases h;exact ⟨k,rfl⟩⟩
def pCst (c:α) (f:α→Bool) (h:∀ x,f x=true→x=c):Pat α :=
 ⟨Unit,fun R=>R,fun g _=>g,fun _ _=>c,fun _ x g=>bif f x then some ((),g) else none,fun {H x g t g'} e k=>by
  cases hf:f x with
  | true=>rw [hf] at e;cases e;exact ⟨k,h _ hf⟩
  | false=>rw [hf] at e;cases e⟩
def pSub (m:β→α) (s:α→Option β) (h:∀ x b,s x=some b→x=m b) (p:Pat β):Pat α :=
 ⟨p.T,p.A,p.app,fun H t=>m (p.of H t),fun H x g=>match s x with | none=>none | some b=>p.get H b g,fun {H x g t g'} e k=>by
  cases hs:s x with
  | none=>rw [hs] at e;cases e
  | some b =>
   rw [hs] at e
   obtain ⟨h1,h2⟩:=p.inv e k
   exact ⟨h1,by rw [h _ _ hs,h2]⟩⟩
def pPr (p:Pat α) (q:Pat β):Pat (α×β) :=
 ⟨p.T×q.T,fun R=>p.A (q.A R),fun g t=>q.app (p.app g t.1) t.2,fun H t=>(p.of H t.1,q.of H t.2),
  fun H x g=>match p.get H x.1 g with | none=>none | some (a,g1)=>(match q.get H x.2 g1 with | none=>none | some (b,g2)=>some ((a,b),g2)),fun {H x g t g'} e k=>by
   cases h1:p.get H x.1 g with
   | none=>rw [h1] at e;cases e
   | some y =>
    obtain ⟨a,g1⟩:=y
    rw [h1] at e
    simp only at e
    cases h2:q.get H x.2 g1 with
    | none=>rw [h2] at e;cases e
    | some z =>
     obtain ⟨b,g2⟩:=z
     rw [h2] at e
     cases e
     obtain ⟨k2,e2⟩:=q.inv h2 k
     obtain ⟨k1,e1⟩:=p.inv h1 k2
     exact ⟨k1,Prod.ext e1 e2⟩⟩
end
def nK (n:Nat):Pat Nat:=pCst n (fun x=>Nat.beq x n) fun _ h=>qAn h
def nT (id:Nat):Pat Nat :=
 ⟨Unit,fun R=>R,fun g _=>g,fun H _=>H id,fun H x g=>some ((),match g with | none=>some (decide (x=H id)) | some b=>some (b&&decide (x=H id))),fun {H x g t g'} e k=>by
  cases e
  cases g with
  | none=>exact ⟨trivial,of_decide_eq_true k⟩
  | some b =>
   have k:(b&&decide (x=H id))=true:=k
   simp only [qAf,decide_eq_true_eq] at k
   exact ⟨k.1,k.2⟩⟩
abbrev nV:Pat Nat:=pAt
abbrev LPt:Type 1:=Pat (List PV)
abbrev VPt:Type 1:=Pat PV
def vI (k:IntKind):VPt:=pSub (.int k) (fun x=>match x with | .int q n=>bif decide (q=k) then some n else none | _=>none) (fun x b h=>by
 split at h
 ·rename_i q n
  by_cases e:q=k
  ·subst e;rw [decide_eq_true rfl] at h;cases h;rfl
  ·rw [decide_eq_false e] at h;cases h
 ·cases h) pAt
def vB:VPt:=pSub .bool (fun x=>match x with | .bool b=>some b | _=>none) (fun x b h=>by cases x <;> cases h;rfl) pAt
def vDl (p:LPt):VPt:=pSub .data (fun x=>match x with | .data b=>some b | _=>none) (fun x b h=>by cases x <;> cases h;rfl) p
def vD:VPt:=vDl pAt
def vA (p:LPt):VPt:=pSub .agg (fun x=>match x with | .agg b=>some b | _=>none) (fun x b h=>by cases x <;> cases h;rfl) p
def vNs:VPt:=pCst .nils (fun x=>match x with | .nils=>true | _=>false) fun x h=>by cases x <;> cases h;rfl
def vP (id o:Nat) (e i:Pat Nat):VPt:=pSub (fun b=>.ptr id b.1 b.2 o) (fun x=>match x with | .ptr a e i f=>bif Nat.beq a id&&Nat.beq f o then some (e,i) else none | _=>none) (fun x b h=>by
 split at h
 ·rename_i a e i f
  cases hc:(Nat.beq a id&&Nat.beq f o) with
  | false=>rw [hc] at h;cases h
  | true =>
   rw [hc] at h
   simp only [qAf] at hc
   cases h
   rw [qAn hc.1,qAn hc.2]
 ·cases h) (pPr e i)
def vX (o:Nat) (p:VPt):VPt:=pSub (fun b=>.eptr [b] 0 o) (fun x=>match x with | .eptr [y] i f=>bif Nat.beq i 0&&Nat.beq f o then some y else none | _=>none) (fun x b h=>by
 split at h
 ·rename_i y i f
  cases hc:(Nat.beq i 0&&Nat.beq f o) with
  | false=>rw [hc] at h;cases h
  | true =>
   rw [hc] at h
   simp only [qAf] at hc
   cases h
   rw [qAn hc.1,qAn hc.2]
 ·cases h) p
def vO (id:Nat) (lo len ext c:Pat Nat):VPt:=pSub (fun b=>.own id b.1 b.2.1 b.2.2.1 (some b.2.2.2)) (fun x=>match x with | .own a lo len ext (some c)=>bif Nat.beq a id then some (lo,len,ext,c) else none | _=>none) (fun x b h=>by
 split at h
 ·rename_i a lo len ext c
  cases hc:Nat.beq a id with
  | false=>rw [hc] at h;cases h
  | true=>rw [hc] at h;cases h;rw [qAn hc]
 ·cases h) (pPr lo (pPr len (pPr ext c)))
def vW (id:Nat) (lo len ext:Pat Nat):VPt:=pSub (fun b=>.own id b.1 b.2.1 b.2.2 none) (fun x=>match x with | .own a lo len ext none=>bif Nat.beq a id then some (lo,len,ext) else none | _=>none) (fun x b h=>by
 split at h
 ·rename_i a lo len ext
  cases hc:Nat.beq a id with
  | false=>rw [hc] at h;cases h
  | true=>rw [hc] at h;cases h;rw [qAn hc]
 ·cases h) (pPr lo (pPr len ext))
def vF (n:Nat) (p q:LPt):VPt:=pSub (fun b=>.fn (.func n) b.1 b.2) (fun x=>match x with | .fn (.func k) a b=>bif Nat.beq k n then some (a,b) else none | _=>none) (fun x b h=>by
 split at h
 ·rename_i k a b
  cases hc:Nat.beq k n with
  | false=>rw [hc] at h;cases h
  | true=>rw [hc] at h;cases h;rw [qAn hc]
 ·cases h) (pPr p q)
def lN:LPt:=pCst [] (fun x=>match x with | []=>true | _::_=>false) fun x h=>by cases x <;> cases h;rfl
def lC (p:VPt) (q:LPt):LPt:=pSub (fun b=>b.1::b.2) (fun x=>match x with | y::r=>some (y,r) | []=>none) (fun x b h=>by cases x <;> cases h;rfl) (pPr p q)
def fN:Pat Frm:=pCst [] (fun x=>match x with | []=>true | _::_=>false) fun x h=>by cases x <;> cases h;rfl
def fV (s:Nat) (p:VPt) (q:Pat Frm):Pat Frm:=pSub (fun b=>(s,.v b.1)::b.2) (fun x=>match x with | (k,.v y)::r=>bif Nat.beq k s then some (y,r) else none | _=>none) (fun x b h=>by
 split at h
 ·rename_i k y r
  cases hc:Nat.beq k s with
  | false=>rw [hc] at h;cases h
  | true=>rw [hc] at h;cases h;rw [qAn hc]
 ·cases h) (pPr p q)
def fX (s:Nat) (p:VPt) (q:Pat Frm):Pat Frm:=pSub (fun b=>(s,.box b.1)::b.2) (fun x=>match x with | (k,.box y)::r=>bif Nat.beq k s then some (y,r) else none | _=>none) (fun x b h=>by
 split at h
 ·rename_i k y r
  cases hc:Nat.beq k s with
  | false=>rw [hc] at h;cases h
  | true=>rw [hc] at h;cases h;rw [qAn hc]
 ·cases h) (pPr p q)
def rhN:Pat Hp:=pCst [] (fun x=>match x with | []=>true | _::_=>false) fun x h=>by cases x <;> cases h;rfl
def rhB (fz pu:Bool) (esz:Nat) (p:LPt) (q:Pat Hp):Pat Hp:=pSub (fun b=>⟨fz,pu,esz,b.1⟩::b.2) (fun x=>match x with | ⟨a,b,c,rows⟩::r=>bif (a == fz)&&((b == pu)&&Nat.beq c esz) then some (rows,r) else none | []=>none) (fun x b h=>by
 split at h
 ·rename_i a b c rows r
  cases hc:((a == fz)&&((b == pu)&&Nat.beq c esz)) with
  | false=>rw [hc] at h;cases h
  | true =>
   rw [hc] at h
   simp only [qAf,beq_iff_eq] at hc
   cases h
   rw [hc.1,hc.2.1,qAn hc.2.2]
 ·cases h) (pPr p q)
structure RPt where
 p:LPt
 n:∀ r r' t,(p.of r t).length=(p.of r' t).length
structure HPt where
 p:Pat Hp
 n:∀ r r' t id,blen (p.of r t) id=blen (p.of r' t) id
def rA:RPt:=⟨pAt,fun _ _ _=>rfl⟩
def rN:RPt:=⟨lN,fun _ _ _=>rfl⟩
def rC (p:VPt) (q:RPt):RPt:=⟨lC p q.p,fun r r' t=>congrArg (·+1) (q.n r r' t.2)⟩
def hN:HPt:=⟨rhN,fun _ _ _ _=>rfl⟩
def hB (fz pu:Bool) (esz:Nat) (p:RPt) (q:HPt):HPt:=⟨rhB fz pu esz p.p q.p,fun r r' t id=>by
 cases id with
 | zero=>exact p.n r r' t.1
 | succ k=>exact q.n r r' t.2 k⟩
abbrev Sta:Type:=Hp×Frm×Frm
abbrev r0:Nat→Nat:=fun _=>0
def pS (h:HPt) (p o:Pat Frm):Pat Sta :=
 ⟨h.p.T×p.T×o.T,fun R=>h.p.A (p.A (o.A R)),fun g t=>o.app (p.app (h.p.app g t.1) t.2.1) t.2.2,fun _ t=>(h.p.of (blen (h.p.of r0 t.1)) t.1,p.of (blen (h.p.of r0 t.1)) t.2.1,o.of (blen (h.p.of r0 t.1)) t.2.2),
  fun _ x g=>match h.p.get (blen x.1) x.1 g with | none=>none | some (a,g1)=>(match p.get (blen x.1) x.2.1 g1 with | none=>none | some (b,g2)=>(match o.get (blen x.1) x.2.2 g2 with | none=>none | some (c,g3)=>some ((a,b,c),g3))),fun {H x g t g'} e k=>by
   obtain ⟨X,Y,Z⟩:=x
   cases h1:h.p.get (blen X) X g with
   | none=>simp only [h1] at e;cases e
   | some y =>
    obtain ⟨a,g1⟩:=y
    simp only [h1] at e
    cases h2:p.get (blen X) Y g1 with
    | none=>rw [h2] at e;cases e
    | some z =>
     obtain ⟨b,g2⟩:=z
     rw [h2] at e
     simp only at e
     cases h3:o.get (blen X) Z g2 with
     | none=>rw [h3] at e;cases e
     | some w =>
      obtain ⟨c,g3⟩:=w
      rw [h3] at e
      cases e
      obtain ⟨k3,e3⟩:=o.inv h3 k
      obtain ⟨k2,e2⟩:=p.inv h2 k3
      obtain ⟨k1,e1⟩:=h.p.inv h1 k2
      refine ⟨k1,?_⟩
      show (X,Y,Z)=(h.p.of (blen (h.p.of r0 a)) a,p.of (blen (h.p.of r0 a)) b,o.of (blen (h.p.of r0 a)) c)
      have e4:blen (h.p.of r0 a)=blen X:=funext fun id=>by
       rw [h.n r0 (blen X) a id,← e1]
      rw [e4,← e1,← e2,← e3]⟩
structure St where
 p:Pat Sta
 g:Nat→p.A Prop
def runS:List St→Nat→Sta→Prop
 | [],_,_=>False
 | s::r,n,x=>match s.p.get r0 x none with | some (t,b)=>asB b (s.p.app (s.g n) t) | none=>runS r n x
def runE:List St→Sta→Prop
 | [],_=>False
 | s::r,x=>match s.p.get r0 x none with | some (t,b)=>asB b (∃ n,s.p.app (s.g n) t) | none=>runE r x
theorem yGE {x:Sta}:∀ {L:List St},runE L x→∃ n,runS L n x
 | [],h=>h.elim
 | s::r,h=>by
  unfold runE at h
  unfold runS
  split at h
  ·rename_i t b e
   obtain ⟨hb,n,h⟩:=yve.1 h
   exact ⟨n,yve.2 ⟨hb,h⟩⟩
  ·obtain ⟨n,h⟩:=yGE h
   exact ⟨n,h⟩
theorem ywk {x:Sta} {n:Nat}:∀ {L:List St},runS L n x→∃ s,s∈L∧∃ t,x=s.p.of r0 t∧s.p.app (s.g n) t
 | [],h=>h.elim
 | s::r,h=>by
  unfold runS at h
  split at h
  ·rename_i t b e
   obtain ⟨hb,h⟩:=yve.1 h
   exact ⟨s,qAt,t,(s.p.inv e hb).2,h⟩
  ·obtain ⟨s',h1,h2⟩:=ywk h
   exact ⟨s',qAk _ h1,h2⟩
def bodS (gc:Bool) (L:List St) (n:Nat) (G:Frm) (k:Nat) (F':Frm) (H':Hp):Prop:=runS L n (bif gc then gcH F' k H' else H',F',G)
def AllB (E:Env) (callK:CK) (lp:LP) (yk:Frm→YK) (b:TC) (gc:Bool) (Q:Qx) (L:List St):List St→Prop
 | []=>True
 | s::r=>(∀ t,s.p.app (s.g 0) t=False)∧(∀ n t,WC E callK lp (s.p.of r0 t).2.2 (yk (s.p.of r0 t).2.2) b (s.p.of r0 t).2.1 (s.p.of r0 t).1 (exQ (bodS gc L n (s.p.of r0 t).2.2 (s.p.of r0 t).1.length) Q)=s.p.app (s.g (n+1)) t)∧AllB E callK lp yk b gc Q L r
theorem AllB.mem {E:Env} {callK:CK} {lp:LP} {yk:Frm→YK} {b:TC} {gc:Bool} {Q:Qx} {L:List St}:∀ {l:List St},AllB E callK lp yk b gc Q L l→∀ s∈l,(∀ t,s.p.app (s.g 0) t=False)∧(∀ n t,WC E callK lp (s.p.of r0 t).2.2 (yk (s.p.of r0 t).2.2) b (s.p.of r0 t).2.1 (s.p.of r0 t).1 (exQ (bodS gc L n (s.p.of r0 t).2.2 (s.p.of r0 t).1.length) Q)=s.p.app (s.g (n+1)) t)
 | [],_,s,h=>by cases h
 | x::r,h,s,hs=>by
  rcases qAv.1 hs with rfl | hs
  ·exact ⟨h.1,h.2.1⟩
  ·exact AllB.mem h.2.2 s hs
section
variable {E:Env} {callK:CK} {P:EP} {lp:LP} {yk:Frm→YK} {b:TC} {Q:Qx} {L:List St} {id:Nat} {F G:Frm} {H:Hp}
theorem yqU.st (hP:Sub P E) (hG:Good P callK) (hY:YOk P E (yk G)) (hl:LpOk P E lp G b) (hb:AllB E callK lp yk b false Q L L) (h:runE L (H,F,G)) (hf:ydw b=true:=by kernel_rfl):yqU P (.loop id b) F H Q:=by
 obtain ⟨n,h⟩:=yGE h
 refine yqU.intro (id:=id) hP hG hf hY hl (fun n F H=>runS L n (H,F,G)) (fun F H h=>?_) (fun n F H h=>?_) n F H h
 ·obtain ⟨s,hs,t,_,h⟩:=ywk h
  rw [(hb.mem s hs).1 t] at h
  exact h
 ·obtain ⟨s,hs,t,e,h⟩:=ywk h
  rw [← (hb.mem s hs).2 n t,← e] at h
  exact h
end
abbrev ybZ (S:SE) (d:Nat) (yk:Frm→YK) (b:TC) (gc:Bool) (L:Qx→List St):Prop:=∀ Q,AllB S.E (ytX S d) S.lp yk b gc Q (L Q) (L Q)
abbrev a:Frm→YK:=fun _=>noYK
abbrev LpT (P:EP) (lp:LP) (G:Frm) (id:Nat) (c:TC):Prop:=∀ F H Q,lp id G F H Q→yqU P c F H Q
def lpS:List (Nat×(Qx→List St))→LP
 | [],_,_,_,_,_=>False
 | p::r,id,G,F,H,Q=>bif Nat.beq id p.1 then runE (p.2 Q) (H,F,G) else lpS r id G F H Q
structure Sg where
 p:LPt
 R:Type
 k:(PV→Prop)→R
abbrev Sg.W (s:Sg):Type:=s.p.A (s.R→Prop)
def Sg.pw (s:Sg) (w:s.W) (az:List PV) (K:PV→Prop):Prop:=match s.p.get r0 az none with | some (t,b)=>asB b (s.p.app w t (s.k K)) | none=>False
def sE (E:Env) (l:List (Nat×(List PV→(PV→Prop)→Prop))) (lp:LP):SE:=⟨E,yko l,ykp [],lp,fun _=>none⟩
def lp0:LP:=fun _ _ _ _ _=>False
def EqW (S:SE) (d:Nat) (t:TFn) (s:Sg) (w:s.W):Prop:=∀ a K,WP S d t (s.p.of r0 a) K=s.p.app w a (s.k K)
theorem Sg.inv {s:Sg} {w:s.W} {az:List PV} {K:PV→Prop} (h:s.pw w az K):∃ a,az=s.p.of r0 a∧s.p.app w a (s.k K):=by
 unfold Sg.pw at h
 split at h
 ·rename_i t b e
  obtain ⟨hb,h⟩:=yve.1 h
  exact ⟨t,(s.p.inv e hb).2,h⟩
 ·exact h.elim
theorem okW {P:EP} {S:SE} {d n:Nat} {t:TFn} {s:Sg} {w:s.W} (hq:EqW S d t s w) (hS:SEOk P S) (hR:ymP P S.E (ytX S d) t.body) (hl:LpOk P S.E S.lp [] t.body) (hs:∀ az,S.E.sum n az=none) (he:∀ az H,S.E.eff n az H=none) (hf:S.E.fns n=some t.fn) (hu:S.E.qui n=true) (hn:S.E.nl n=false):∀ az K,s.pw w az K→∃ r,K r∧AnsP P n az r:=fun az K h=>by
 obtain ⟨a,e,k⟩:=Sg.inv h
 subst e
 rw [← hq a K] at k
 exact yJe hS hR hl hf hu hs he k hn
end Go.Pf
namespace Go.Pf.Vc
open Go Go.Pf
def yiX:Nat:=27
def yeJ:Nat:=6
def yiY:Nat:=13
def yha:Nat:=34
def yiZ:Nat:=14
def yja:Nat:=35
def yn8:Nat:=15
def yil:Nat:=22
def yjb:Nat:=36
def yff:Nat:=109
def yfg:Nat:=110
def yc1:Nat:=69
def ycD:Nat:=39
def yc2:Nat:=105
def yeK:Nat:=66
def yk5:Nat:=29
def ycE:Nat:=30
def yc3:Nat:=73
def yeq:Nat:=76
def yde:Nat:=112
def ydP:Nat:=111
def ycF:Nat:=70
def yef:Nat:=113
def ydl:Nat:=71
def yh1:Nat:=72
def ydQ:Nat:=114
def yc4:Nat:=75
def yhF:Nat:=74
def ydH:Nat:=40
def ydf:Nat:=41
def ydx:Nat:=77
def yeL:Nat:=42
def ycK:Nat:=58
def yhG:Nat:=93
def yjc:Nat:=78
def ydR:Nat:=130
def yer:Nat:=129
def yeM:Nat:=128
def ygx:Nat:=154
def ygy:Nat:=155
def ykq:Nat:=65
def ydS:Nat:=168
def ykr:Nat:=157
def yn9:Nat:=156
def yet:Nat:=132
def yfz:Nat:=131
def ydI:Nat:=80
def yhH:Nat:=90
def ydT:Nat:=56
def ygz:Nat:=115
def yjd:Nat:=79
def yhb:Nat:=94
def ye9:Nat:=134
def yt2:Nat:=133
def yje:Nat:=91
def yeg:Nat:=57
def yk6:Nat:=81
def yeN:Nat:=43
def yaO:Nat:=116
def ybW:Nat:=82
def ya2:Nat:=44
def yaU:Nat:=45
def yyP:Nat:=64
def yk7:Nat:=28
def yfh:Nat:=153
def ycQ:Nat:=124
def ybs:Nat:=118
def ybU:Nat:=83
def yeO:Nat:=46
def yd5:Nat:=17
def yjf:Nat:=9
def ygW:Nat:=7
def ygX:Nat:=37
def yk8:Nat:=33
def yk9:Nat:=11
def yla:Nat:=38
def yjg:Nat:=16
def ygA:Nat:=48
def yh2:Nat:=47
def yfA:Nat:=18
def yfB:Nat:=49
def yim:Nat:=50
def ydU:Nat:=19
def yjh:Nat:=51
def yji:Nat:=84
def yhI:Nat:=85
def ygB:Nat:=54
def yoa:Nat:=127
def yin:Nat:=87
def yjj:Nat:=88
def yjk:Nat:=89
def yio:Nat:=55
def yks:Nat:=53
def yob:Nat:=86
def ykt:Nat:=21
def yjl:Nat:=52
def yjm:Nat:=20
def ygC:Nat:=4
def zF (d s:Nat) (o:AOp):AO:=⟨some d,o,some (s,false)⟩
def zT (d s:Nat) (o:AOp):AO:=⟨some d,o,some (s,true)⟩
def zS (n:Nat) (a x:Opd):AO:=⟨none,.store n a x,none⟩
def zR:Nat→Nat→List Nat
 | _,0=>[]
 | a,n+1=>a::zR (a+1) n
def zQ:TC→TC→TC:=.seq
def zC:Opd→TC→TC→TC:=.cond
def zB:Nat→TC→TC:=.block
abbrev zI:Sh:=.one (.i .i64)
abbrev zD:Sh:=.one .d
abbrev z2:Sh:=.agg [.i .i64,.i .i64]
abbrev z4:Sh:=.agg [.i .i64,.i .i64,.i .i64,.i .i64]
abbrev zK:Sh:=.agg [.i .i64,.d,.d]
abbrev zE:Sh:=.agg [.d,.d]
def yJf (o:AO):Nat :=
 match o.dst with
 | some d=>d
 | none=>(match o.op with | .store _ (.t a) _=>a+100000 | _=>999999)
def anF:List (Sh×Nat×List Nat)→Nat→Option (Sh×Nat)
 | [],_=>none
 | (s,m,l)::r,k=>bif memN l k then some (s,m) else anF r k
def anL (tb:List (Sh×Nat×List Nat)):Nat→List AO→List An
 | _,[]=>[]
 | i,o::r=>(match anF tb (yJf o) with | some (s,m)=>⟨i,s,m⟩::anL tb (i+1) r | none=>anL tb (i+1) r)
def annT (tb:List (Sh×Nat×List Nat)) (lps:List (Nat×Nat)):Nat→AC→TC
 | _,.skip=>.skip
 | _,.ops l ps fg=>.ops l (anL tb 0 l) ps fg
 | k,.seq a b=>.seq (annT tb lps k a) (annT tb lps k b)
 | k,.cond c a b=>.cond c (annT tb lps k a) (annT tb lps k b)
 | _,.block id b=>.block id (annT tb lps id b)
 | k,.loop b=>.loop ((lps.lookup k).getD 0) (annT tb lps k b)
 | k,.lG b=>.lG ((lps.lookup k).getD 0) (annT tb lps k b)
 | _,.exit id=>.exit id
 | _,.ret=>.ret
 | _,.bad=>.bad
 | _,.rangeF g ps az bd=>.cut (.rangeF g ps az bd)
 | _,.yret c pre d y args e fgt=>.cut (.yret c pre d y args e fgt)
theorem yeu (tb:List (Sh×Nat×List Nat)) (lps:List (Nat×Nat)):∀ (c:AC) (k:Nat),ybJ (annT tb lps k c)=c
 | .skip,_=>rfl
 | .ops _ _ _,_=>rfl
 | .seq a b,k=>by simp only [annT,ybJ,yeu tb lps a,yeu tb lps b]
 | .cond _ a b,k=>by simp only [annT,ybJ,yeu tb lps a,yeu tb lps b]
 | .block _ b,k=>by simp only [annT,ybJ,yeu tb lps b]
 | .loop b,k=>by simp only [annT,ybJ,yeu tb lps b]
 | .lG b,k=>by simp only [annT,ybJ,yeu tb lps b]
 | .exit _,_=>rfl
 | .ret,_=>rfl
 | .bad,_=>rfl
 | .rangeF ..,_=>rfl
 | .yret ..,_=>rfl
def tfn (tb:List (Sh×Nat×List Nat)) (lps:List (Nat×Nat)):Option AFn→TFn
 | some f=>⟨f.nparams,f.results,annT tb lps 999999 f.body⟩
 | none=>⟨0,[],.bad⟩
theorem yIQ {tb:List (Sh×Nat×List Nat)} {lps:List (Nat×Nat)} {o:Option AFn} (h:o.isSome=true):o=some (tfn tb lps o).fn:=by
 cases o with
 | none=>cases h
 | some f=>simp only [tfn,TFn.fn,yeu]
def yck (t:TFn) (id:Nat):TC :=
 match (yct t.body).lookup id with
 | some (.loop _ b)=>b
 | some (.lG _ b)=>b
 | _=>.skip
def rg:Nat→Nat→List Nat
 | a,0=>[a]
 | a,n+1=>a::rg (a+1) n
def xp:List Nat→List Nat
 | a::b::r=>bif Nat.blt 5000 b then rg a (b-5000)++xp r else a::xp (b::r)
 | l=>l
def tl (tb:List (Sh×Nat×List Nat)) (lps:List (Nat×Nat)) (loc:List Nat) (fg:List (Nat×List Nat)) (f:Func):TFn:=tfn tb lps (ykX Proofs.Tryz.prog loc (fun i=>xp ((fg.lookup i).getD [])) f)
theorem yaC {tb:List (Sh×Nat×List Nat)} {lps:List (Nat×Nat)} {loc:List Nat} {fg:List (Nat×List Nat)} {f:Func} (h:(ykX Proofs.Tryz.prog loc (fun i=>xp ((fg.lookup i).getD [])) f).isSome=true):ykX Proofs.Tryz.prog loc (fun i=>xp ((fg.lookup i).getD [])) f=some (tl tb lps loc fg f).fn:=yIQ h
def yBN:TFn:=tl [(zK,0,[4,9])] [] [1] [(1,[1,3,5009]),(0,[0,2])] Proofs.Tryz.f27
def yku:TFn:=tl [(zK,0,[12,13])] [(0,4277600)] [] [(6,[0,3,7,15,16,17]),(3,[8,9,14]),(5,[0,3,14]),(4,[7,10,5003]),(2,[4,5,6]),(0,[2])] Proofs.Tryz.f6
def ysQ:TC:=yck yku 4277600
def yBO:TFn:=tl [(zE,0,[4,8,13,20])] [] [1] [(1,[1,3,5020]),(0,[0,2])] Proofs.Tryz.f13
def yt3:TFn:=tl [(zK,0,[6,10,15,19,25,28,35,42,44,50,55,61,67,74,82,91]),(zI,0,[36,37,47,48,64,65,69,70,76,77,84,85,93,94])] [(0,94526800)] [1] [(14,[98]),(13,[98]),(12,[1,3,4,57,97]),(8,[58,59]),(11,[87,5009]),(10,[1,3,4,87]),(9,[57,60,5026]),(7,[53,5003]),(5,[52]),(4,[1,52]),(3,[13,5038]),(2,[1,13]),(1,[5,5007]),(0,[0,2])] Proofs.Tryz.f34
def ypn:TC:=yck yt3 94526800
def ymS:TFn:=tl [(zE,0,[6,11,16,21,27,34,41,47,53]),(zK,0,[29,30,36,37,49,51,54,56])] [(0,6981300),(2,6981301)] [1] [(15,[1,4,43]),(12,[44,45,57]),(14,[1,4,57]),(13,[43,46,5010]),(11,[39,5003]),(10,[3,23]),(7,[24,25,32]),(9,[1,3,32,5006]),(8,[23,26,5005]),(6,[19,5003]),(5,[18]),(4,[1,18]),(3,[14,5003]),(2,[1,14]),(1,[5,5008]),(0,[0,2])] Proofs.Tryz.f14
def ysR:TC:=yck ymS 6981300
def ysS:TC:=yck ymS 6981301
def yBP:TFn:=tl [(zE,0,[10])] [] [2] [(1,[1,2,5,5008]),(0,[0,4])] Proofs.Tryz.f35
def yyQ:TFn:=tl [(zI,0,[15,16,25,26,30,31])] [(0,35929100)] [2] [(6,[1,2,5,9,35,36,37]),(3,[10,11,34]),(5,[1,2,5,34]),(4,[9,12,5021]),(2,[6,7,8]),(0,[0,4])] Proofs.Tryz.f15
def ypo:TC:=yck yyQ 35929100
def yGF:TFn:=tl [] [] [2] [(1,[0,3,4])] Proofs.Tryz.f22
def yBQ:TFn:=tl [] [] [1,2,4,5,7,8] [(1,[1,5009]),(0,[0])] Proofs.Tryz.f36
def ymg:TFn:=tl [(zI,0,[10,11,21,22])] [(0,10434000)] [] [(8,[0,3,4,15,24]),(6,[16,17]),(7,[15,18,5005]),(5,[12,13,14]),(3,[7,9,10,11]),(2,[7,8]),(1,[5,6]),(0,[2])] Proofs.Tryz.f109
def ypp:TC:=yck ymg 10434000
def ymh:TFn:=tl [(zI,0,[10,11,21,22])] [(0,64079100)] [] [(8,[0,3,4,15,24]),(6,[16,17]),(7,[15,18,5005]),(5,[12,13,14]),(3,[7,9,10,11]),(2,[7,8]),(1,[5,6]),(0,[2])] Proofs.Tryz.f110
def ypq:TC:=yck ymh 64079100
def yqZ:TFn:=tl [(zK,0,[6,9,16,24,32,39,45,54,59,67,72,78]),(zI,0,[33,34,42,43,56,57,62,63])] [(0,87419700)] [1] [(14,[81]),(13,[81]),(12,[1,49,50,51,66,5014]),(11,[64,65]),(10,[1,49,50,64]),(9,[4,53,5010]),(8,[51,52]),(6,[3,47,48]),(5,[1,3,47]),(4,[14,5032]),(3,[1,3,14]),(2,[8,5005]),(1,[5,6,7]),(0,[0,2])] Proofs.Tryz.f69
def ypr:TC:=yck yqZ 87419700
def ymT:TFn:=tl [(zE,0,[9,14,19,23,36,45]),(zK,0,[27,28,40,41,43,46,48])] [(0,12157600),(2,12157601)] [1,4,7] [(18,[1,36,5003]),(17,[49,50]),(16,[1,36,37,38,49]),(15,[7,42,5006]),(14,[39,40,41]),(12,[23,5003,35]),(11,[5,32,34]),(10,[1,5,23,24,25,32,33]),(9,[31]),(8,[4,29,30]),(7,[26,27,28]),(5,[21,22]),(4,[1,21]),(3,[17,5003]),(2,[1,17]),(1,[8,5008]),(0,[0,2])] Proofs.Tryz.f39
def yps:TC:=yck ymT 12157600
def ypt:TC:=yck ymT 12157601
def yEE:TFn:=tl [] [] [] [(3,[0,4,5003]),(2,[0,4]),(1,[3]),(0,[2])] Proofs.Tryz.f105
def yq0:TFn:=tl [(zK,0,[10,11,14,16,19])] [(0,94933800)] [22,5] [(7,[3,6,5003,25]),(6,[24]),(5,[5,12,5011]),(4,[9,10,11]),(2,[0]),(0,[2])] Proofs.Tryz.f66
def ypu:TC:=yck yq0 94933800
def yDr:TFn:=tl [] [] [2] [(4,[0,4,9,12,13,14]),(3,[0,4,9,10,11]),(2,[8]),(1,[5,6,7]),(0,[3])] Proofs.Tryz.f29
def yxC:TFn:=tl [] [] [2] [(1,[0,3,4])] Proofs.Tryz.f30
def yzA:TFn:=tl [] [] [] [(3,[0,4,8,9]),(2,[0,4,5003]),(1,[3]),(0,[2])] Proofs.Tryz.f73
def yt4:TFn:=tl [] [(0,32725300)] [] [(3,[0,1,6,11]),(2,[6,5004]),(1,[5]),(0,[4])] Proofs.Tryz.f76
def ypv:TC:=yck yt4 32725300
def yxD:TFn:=tl [(z2,0,[4,8,11,18,21])] [] [1] [(3,[25]),(2,[25]),(1,[1,3,5021]),(0,[0,2])] Proofs.Tryz.f112
def yip:TFn:=tl [(zI,0,[10,11])] [(0,38508400)] [] [(8,[3,6,5003,17]),(7,[5,14,16]),(6,[3,5,5003,14,15]),(5,[12,13]),(4,[9,10,11]),(2,[0]),(0,[2])] Proofs.Tryz.f111
def ypw:TC:=yck yip 38508400
def yxE:TFn:=tl [] [] [9,2,3] [(1,[2,3,5,5005]),(0,[0,1,4])] Proofs.Tryz.f70
def yq1:TFn:=tl [] [] [] [(1,[0,3,4,5]),(0,[2])] Proofs.Tryz.f113
def yoj:TFn:=tl [] [] [] [(13,[19]),(12,[19]),(11,[0,1,16,17,18]),(10,[0,1,16]),(9,[13,14,15]),(8,[0,1,13]),(7,[6,11]),(6,[12]),(5,[12]),(4,[0,1,6,11]),(3,[5]),(2,[9,10]),(1,[7,8]),(0,[4])] Proofs.Tryz.f71
def yFr:TFn:=tl [] [] [] [(11,[0,1,48,49,50]),(10,[7,9,12,13,40,5007]),(9,[6,35,5004]),(8,[11,33,34]),(7,[31,32]),(6,[8,10,25,5005]),(5,[22,23,24]),(4,[20,21]),(3,[18,19]),(2,[16,17]),(1,[14,15]),(0,[4,5])] Proofs.Tryz.f72
def ypx:TFn:=tl [] [] [] [(1,[0,3,4,5]),(0,[2])] Proofs.Tryz.f114
def ymU:TFn:=tl [] [] [] [(13,[19]),(12,[19]),(11,[0,1,16,17,18]),(10,[0,1,16]),(9,[13,14,15]),(8,[0,1,13]),(7,[6,11]),(6,[12]),(5,[12]),(4,[0,1,6,11]),(3,[5]),(2,[9,10]),(1,[7,8]),(0,[4])] Proofs.Tryz.f75
def yq2:TFn:=tl [(zI,0,[10,11])] [(0,53260600)] [] [(8,[3,6,5003,17]),(7,[5,14,16]),(6,[3,5,5003,14,15]),(5,[12,13]),(4,[9,10,11]),(2,[0]),(0,[2])] Proofs.Tryz.f74
def ypy:TC:=yck yq2 53260600
def yBR:TFn:=tl [(z2,0,[19,22,26,28,32,35,42,45,59])] [] [56,2,3] [(11,[11,60,63]),(10,[60,61,62]),(9,[2,58,59]),(8,[7,5003,50,5007]),(7,[3,40,5009]),(6,[24,30,5009]),(5,[2,3,24,5005]),(4,[6,16,18,5005]),(3,[2,3,6,16,17]),(2,[15]),(1,[12,13,14]),(0,[0,1,4,5])] Proofs.Tryz.f40
def yxF:TFn:=tl [] [] [2,3] [(2,[5,13]),(1,[2,3,6,5006]),(0,[0,1,4])] Proofs.Tryz.f41
def ywl:TFn:=tl [] [] [6] [(5,[1,2,13,20,5004]),(4,[1,2,13,5006]),(3,[0,11]),(2,[0,1,2,11,12]),(1,[8,9,10]),(0,[7])] Proofs.Tryz.f77
def yzB:TFn:=tl [] [] [4] [(5,[0,1,6,7,8,19,5013]),(4,[16,17,18]),(3,[10,12,5003]),(2,[0,1,10,11]),(1,[9]),(0,[5])] Proofs.Tryz.f42
def ysT:TFn:=tl [(zE,0,[11])] [] [2] [(1,[1,2,5,5009]),(0,[0,4])] Proofs.Tryz.f58
def yq3:TFn:=tl [(zK,0,[14,24,30]),(zI,0,[19,20,27,28,32,33])] [(0,45203600)] [1] [(10,[1,5,14,5003,38]),(9,[37]),(8,[6,7,21,5015]),(7,[17,5003]),(5,[13]),(4,[4,11]),(3,[1,4,11,12]),(2,[10]),(1,[8,9]),(0,[0,2,3])] Proofs.Tryz.f93
def ypz:TC:=yck yq3 45203600
def yBS:TFn:=tl [(zE,0,[18]),(zK,0,[20,21])] [] [2] [(6,[1,2,16,5008]),(5,[1,2,16]),(4,[6,10,12,5003]),(3,[1,2,6,10,11]),(2,[9]),(1,[7,8]),(0,[0,4,5])] Proofs.Tryz.f78
def yzC:TFn:=tl [] [] [2] [(1,[0,3,4])] Proofs.Tryz.f130
def yBT:TFn:=tl [] [] [2,3] [(2,[5,13,14]),(1,[2,3,6,5006]),(0,[0,1,4])] Proofs.Tryz.f129
def yzD:TFn:=tl [(z2,0,[10]),(zK,0,[15])] [] [2,3] [(1,[2,3,5,5015]),(0,[0,1,4])] Proofs.Tryz.f128
def yFs:TFn:=tl [] [] [] [(10,[0,14,19,5005]),(9,[17,18]),(8,[14,15,16]),(7,[8,13]),(6,[11,12]),(5,[8,9,10]),(4,[4,7]),(2,[2,4,5,6]),(1,[3])] Proofs.Tryz.f65
def ypA:TFn:=tl [] [] [] [(1,[0,3,4,5]),(0,[2])] Proofs.Tryz.f168
def ysU:TFn:=tl [] [(0,60530100),(2,60530101)] [] [(28,[2,8,9,10,14,5004,113,120,5014]),(27,[119]),(26,[116,117,118]),(25,[113,114,115]),(24,[102,5010,120]),(23,[97,5004]),(22,[94,95,96]),(21,[11,13,16,78,85,5008]),(20,[84]),(19,[81,82,83]),(18,[78,79,80]),(17,[67,5010,85]),(16,[62,5004]),(15,[59,60,61]),(14,[12,57,58]),(13,[55,56]),(12,[1,52,53,54]),(11,[0,44,5007]),(10,[42,43]),(9,[40,41]),(8,[37,38,39]),(7,[27,34,35,36]),(6,[0,1,2,27,5006]),(5,[24,26]),(4,[24,25]),(3,[20,22,23]),(2,[20,21]),(1,[19]),(0,[6,7])] Proofs.Tryz.f157
def ypB:TC:=yck ysU 60530100
def ypC:TC:=yck ysU 60530101
def yFt:TFn:=tl [] [] [] [(2,[8,18]),(1,[0,1,2,7,9,5008]),(0,[6])] Proofs.Tryz.f156
def yBU:TFn:=tl [(z2,0,[29,32,37,40,49,52,60,63,66,140,145])] [] [2,3,4] [(26,[12,17,20,153,155,5005]),(25,[12,17,20,153,154]),(24,[19,152]),(23,[2,3,7,16,138,5013]),(22,[13,14,18,129,131,5006]),(21,[2,3,7,12,13,14,16,129,130]),(20,[127,128]),(19,[119,121,5005]),(18,[2,3,7,12,13,14,119,120]),(17,[114,5004]),(16,[8,10,15,107,5006]),(15,[9,11,94,101,5005]),(14,[99,100]),(13,[94,5004]),(12,[68,82,5011]),(11,[8,10,15,75,5006]),(10,[9,11,68,5006]),(9,[62,5005]),(8,[13,14,15]),(7,[59,60,61]),(6,[47,5011]),(5,[35,5011]),(4,[6,25,28,5006]),(3,[2,3,6,25,26,27]),(2,[24]),(1,[21,22,23]),(0,[0,1,5])] Proofs.Tryz.f132
def yBV:TFn:=tl [(z2,0,[15,100017])] [] [2,3,4] [(5,[2,3,18,5004]),(4,[6,11,14,5003]),(3,[2,3,6,11,12,13]),(2,[10]),(1,[7,8,9]),(0,[0,1,5])] Proofs.Tryz.f131
def yBW:TFn:=tl [(z2,0,[25,28,31,34,71,74])] [] [2,3,4] [(10,[2,3,14,16,65,67,5015]),(9,[2,3,14,16,65,66]),(8,[13,15,62,63,64]),(7,[8,10,11,12,52,5009]),(6,[7,9,42,5009]),(5,[36,5005]),(4,[6,21,24,5011]),(3,[2,3,6,21,22,23]),(2,[20]),(1,[17,18,19]),(0,[0,1,5])] Proofs.Tryz.f80
def yq4:TFn:=tl [(zK,0,[42,50]),(zI,0,[47,48,53,54])] [(0,85339800)] [3,4,5,6,9,10,13,14,16] [(28,[3,5,9,10,42,5003,105]),(27,[13,70,104]),(26,[13,15,100,103]),(25,[3,5,9,10,13,15,42,43,44,100,101,102]),(24,[99]),(23,[16,90,93,5005]),(22,[3,5,9,10,13,15,16,42,43,44,90,91,92]),(21,[89]),(20,[12,14,79,82,5006]),(19,[3,5,9,10,12,5003,42,43,44,79,80,81]),(18,[78]),(17,[67,72,5005]),(16,[13,70,71]),(15,[12,67,68,69]),(14,[58,60,5006]),(13,[58,59]),(12,[56,57]),(11,[11,49,5006]),(10,[45,5003]),(8,[41]),(7,[4,40]),(6,[37,39]),(5,[3,4,5,37,38]),(4,[8,20,23,5013]),(3,[3,4,5,8,20,21,22]),(2,[19]),(1,[17,18]),(0,[0,1,2,7])] Proofs.Tryz.f90
def ypD:TC:=yck yq4 85339800
def ypE:TFn:=tl [(zE,0,[12]),(zK,0,[14,15])] [] [4,6,7,8] [(1,[1,4,6,7,10,5010]),(0,[0,2,3,9])] Proofs.Tryz.f56
def ykv:TFn:=tl [(zE,0,[14,46,55,61,66]),((.agg [.i .i64,.i .u8,.i .i64,.i .i64,.i .i64,.i .i64,.i .i64,.i .i64]),0,[23,31,33,35,100052])] [] [69,3,4,6,7,10] [(13,[3,4,10,12,59,5013]),(12,[53,5005]),(11,[48,51,52]),(10,[3,4,10,48,49,50]),(9,[11,40,44,5003]),(8,[3,4,10,11,40,5003]),(7,[39]),(6,[2,25,28,5010]),(5,[2,3,4,25,26,27]),(4,[9,17,21,5003]),(3,[2,3,4,9,17,5003]),(2,[16]),(1,[13,14,15]),(0,[0,1,8])] Proofs.Tryz.f115
def yBX:TFn:=tl [] [] [4,6,7,8,9,11] [(2,[1,6,7,11,14,5010]),(1,[4,12,13]),(0,[0,2,3,10])] Proofs.Tryz.f79
def yBY:TFn:=tl [(z2,0,[16,21,25,28,36,38])] [] [2,3,4] [(8,[2,3,19,34,5008]),(7,[2,3,19,23,5010]),(6,[14,20,21,22]),(5,[2,3,14,18]),(4,[6,11,15,16,17]),(3,[2,3,6,11,12,13]),(2,[10]),(1,[7,8,9]),(0,[0,1,5])] Proofs.Tryz.f94
def yoM:TFn:=tl [] [] [7,8,9,12,14] [(12,[5,6,7,14,15,41,48]),(11,[6,7,14,41,5006]),(10,[40]),(9,[3,4,9,20,33,5006]),(8,[5,13,29,31,32]),(7,[5,29,30]),(6,[28]),(5,[4,12,27]),(4,[3,6,7,9,20,5006]),(3,[17,18,19]),(2,[3,5004,9,17]),(1,[16]),(0,[0,1,2,8,11])] Proofs.Tryz.f134
def yt5:TFn:=tl [(zK,0,[14,22]),(zI,0,[19,20,25,26])] [(0,41613500)] [3,4,9,10,11] [(18,[2,3,4,14,5003]),(17,[8,9,31,61]),(16,[9,59,60]),(15,[2,3,4,9,14,15,16,59]),(14,[8,10,12,34,52,54,5004]),(13,[2,3,4,8,9,10,12,14,15,16,52,53]),(12,[51]),(11,[11,42,44,5006]),(10,[2,3,4,8,5004,14,15,16,42,43]),(9,[41]),(8,[34,5006]),(7,[33]),(6,[31,32]),(5,[28,29,30]),(4,[7,21,5006]),(3,[17,5003]),(1,[13]),(0,[0,1,6])] Proofs.Tryz.f133
def ypF:TC:=yck yt5 41613500
def yBZ:TFn:=tl [(z2,0,[23,29,34,48]),(zI,0,[44,47,100010])] [] [3,4,6] [(15,[9,10,45,48]),(14,[9,10,45,46,47]),(13,[11,42,44]),(12,[11,42,43]),(11,[41]),(10,[3,4,5,37,5003]),(8,[35]),(7,[3,4,5,35,36]),(6,[31,33,34]),(5,[3,4,5,31,32]),(4,[8,15,18,5012]),(3,[3,4,5,8,15,16,17]),(2,[14]),(1,[12,13]),(0,[0,1,2,7])] Proofs.Tryz.f91
def yq5:TFn:=tl [(zE,0,[12]),(zK,0,[14,15])] [] [4,6,7,8] [(1,[1,4,6,7,10,5010]),(0,[0,2,3,9])] Proofs.Tryz.f57
def yDs:TFn:=tl [] [] [4,6,7,8,9,11] [(2,[1,6,7,11,14,5010]),(1,[4,12,13]),(0,[0,2,3,10])] Proofs.Tryz.f81
def yzE:TFn:=tl [(z2,0,[28]),(zE,0,[33]),(zK,0,[34,36])] [] [5,7,8,9,10,11,15] [(9,[1,5,7,14,15,59,63,5007]),(8,[1,5,7,14,15,59,5003]),(7,[9,51,58]),(6,[9,51,5006]),(5,[8,40,50]),(4,[8,40,5009]),(3,[24,5015]),(2,[13,22,23]),(1,[16,5005]),(0,[0,2,3,4,12])] Proofs.Tryz.f43
def ya3:TFn:=tl [((.agg [.i .i64,.i .i64,.i .i64]),0,[25,26,30,31,45,46,49,50,51,52,100051,100052])] [(0,44419401),(2,44419400)] [] [(2,[9,15,16,34]),(5,[35,36]),(6,[34,37,5015]),(4,[18,5015]),(3,[14,17]),(1,[12,13]),(0,[10,11])] Proofs.Tryz.f116
def yiq:TC:=yck ya3 44419400
def ylb:TC:=yck ya3 44419401
def t13:Opd:=.t 13
def t14:Opd:=.t 14
def t15:Opd:=.t 15
def t16:Opd:=.t 16
def t17:Opd:=.t 17
def yir:TC:=(zQ (zQ (oQ [M 11 8,M 12 1,oX 13 .leq 11 12] [11,12]) (zC t13 .skip (.exit 0))) (zB 1 (.cut (.seq (.ops [M 14 0,M 15 7,M 16 8,M 17 2,O 18 (.call (.f yaO) [t14,t15,t16,t17])] [] [7,13,14,15,16,17,18]) (.seq (.ops [M 19 8,M 7 19] [] [19]) (.ops [M 20 8,M 21 6,oX 22 .add 20 21,M 8 22] [] [20,21,22]))))))
def t30:Opd:=.t 30
def t31:Opd:=.t 31
def t35:Opd:=.t 35
def t36:Opd:=.t 36
def t37:Opd:=.t 37
def t40:Opd:=.t 40
def t41:Opd:=.t 41
def t42:Opd:=.t 42
def t46:Opd:=.t 46
def t54:Opd:=.t 54
def t55:Opd:=.t 55
def t56:Opd:=.t 56
def t57:Opd:=.t 57
def t58:Opd:=.t 58
def t59:Opd:=.t 59
def t61:Opd:=.t 61
def yis:TC:=(zQ (zQ (oQ [M 28 6,M 29 1,oX 30 .lss 28 29] [28,29]) (zC t30 .skip (.exit 2))) (zB 3 (.cut (.seq (.ops [M 31 6,O 32 (.bin .mul (I 2) t31),O 7 (.mv (I 0)),M 8 32] [] [30,31,32]) (.seq (.block 4 (.loop (.seq (.seq (.ops [M 33 8,M 34 1,oX 35 .leq 33 34] [] [33,34]) (.cond t35 .skip (.exit 4))) (.block 5 (.seq (.ops [M 36 0,M 37 7,M 38 7,M 39 6,oX 40 .add 38 39,M 41 8,M 42 2,O 43 (.call (.f 117) [t36,t37,t40,t41,t42])] [] [7,35,36,37,38,39,40,41,42,43]) (.seq (.ops [M 44 8,M 7 44] [] [44]) (.ops [M 45 8,M 46 6,O 47 (.bin .mul (I 2) t46),oX 48 .add 45 47,M 8 48] [] (zR 45 4)))))))) (.seq (.seq (.ops [M 49 7,M 50 6,oX 51 .add 49 50,M 9 51] [] [8,35,49,50,51]) (.seq (.ops [M 52 9,M 53 1,oX 54 .lss 52 53] [] [52,53]) (.cond t54 (.ops [M 55 0,M 56 7,M 57 9,M 58 1,M 59 2,O 60 (.call (.f 117) [t55,t56,t57,t58,t59])] [] [7,9,54,55,56,57,58,59,60]) .skip))) (.ops [M 61 6,O 62 (.bin .mul t61 (I 2)),M 6 62] [] [7,9,54,61,62])))))))
def t23:Opd:=.t 23
def t24:Opd:=.t 24
def t25:Opd:=.t 25
def t26:Opd:=.t 26
def ycT:TFn:=⟨3,[],(zQ (oQ [O 6 (.mv (I 20))] []) (zQ (oQ [M 10 6,O 7 (.mv (I 0)),M 8 10] [10]) (zQ (zB 0 (.loop 34804800 yir)) (zQ (oQ [M 23 0,M 24 7,M 25 1,M 26 2,O 27 (.call (.f yaO) [t23,t24,t25,t26])] [7,8,13,23,24,25,26,27]) (zB 2 (.loop 34804802 yis))))))⟩
def ybx:TFn:=tl [] [] [] [(0,[0,1,4,5004])] Proofs.Tryz.f44
def yuv:TFn:=tl [((.agg [.i .i64,.i .i64,.i .i64]),0,[6,8])] [] [2,3] [(1,[2,3,5,5004]),(0,[0,1,4])] Proofs.Tryz.f45
def yI9:TFn:=tl [] [] [] [(7,[0,8,13,5005]),(6,[11,12]),(5,[8,9,10]),(4,[4,7]),(2,[2,4,5,6]),(1,[3])] Proofs.Tryz.f64
def yHO:TFn:=tl [] [] [] [(2,[0,6,7]),(1,[0,3,4,5]),(0,[2])] Proofs.Tryz.f28
def yuw:TFn:=tl [] [] [] [(1,[0,3,4,5]),(0,[2])] Proofs.Tryz.f153
def ywm:TFn:=tl [] [] [] [(1,[0,1,5,5011]),(0,[4])] Proofs.Tryz.f124
def ybt:TFn:=tl [(zI,0,[22,23,27,28,41,42,45,46,47,48,100047,100048])] [(0,58428501),(2,58428500)] [] [(2,[7,13,14,30]),(5,[31,32]),(6,[30,33,5015]),(4,[16,5013]),(3,[12,15]),(1,[10,11]),(0,[8,9])] Proofs.Tryz.f118
def yit:TC:=yck ybt 58428500
def ylc:TC:=yck ybt 58428501
def t0:Opd:=.t 0
def t1:Opd:=.t 1
def t9:Opd:=.t 9
def t11:Opd:=.t 11
def t12:Opd:=.t 12
def t22:Opd:=.t 22
def t28:Opd:=.t 28
def t29:Opd:=.t 29
def t32:Opd:=.t 32
def t34:Opd:=.t 34
def t38:Opd:=.t 38
def t43:Opd:=.t 43
def t44:Opd:=.t 44
def t45:Opd:=.t 45
def t49:Opd:=.t 49
def t50:Opd:=.t 50
def t51:Opd:=.t 51
def t52:Opd:=.t 52
def t53:Opd:=.t 53
def t62:Opd:=.t 62
def t63:Opd:=.t 63
def t65:Opd:=.t 65
def t66:Opd:=.t 66
def t67:Opd:=.t 67
def t68:Opd:=.t 68
def t69:Opd:=.t 69
def t70:Opd:=.t 70
def t71:Opd:=.t 71
def t72:Opd:=.t 72
def t73:Opd:=.t 73
def t75:Opd:=.t 75
def t76:Opd:=.t 76
def t77:Opd:=.t 77
def t78:Opd:=.t 78
def t79:Opd:=.t 79
def t80:Opd:=.t 80
def t81:Opd:=.t 81
def t82:Opd:=.t 82
def t83:Opd:=.t 83
def t84:Opd:=.t 84
def t85:Opd:=.t 85
def t86:Opd:=.t 86
def t87:Opd:=.t 87
def t88:Opd:=.t 88
def t89:Opd:=.t 89
def t90:Opd:=.t 90
def t91:Opd:=.t 91
def t94:Opd:=.t 94
def t95:Opd:=.t 95
def t96:Opd:=.t 96
def t97:Opd:=.t 97
def t98:Opd:=.t 98
def t109:Opd:=.t 109
def t113:Opd:=.t 113
def t117:Opd:=.t 117
def t118:Opd:=.t 118
def t119:Opd:=.t 119
def t120:Opd:=.t 120
def t122:Opd:=.t 122
def t127:Opd:=.t 127
def t128:Opd:=.t 128
def t129:Opd:=.t 129
def t130:Opd:=.t 130
def t131:Opd:=.t 131
def yld:TC:=(zB 1 (zQ (oQ [M 19 2,M 20 1,oX 21 .sub 19 20,M 10 21] [19,20,21]) (zQ (zQ (oQ [M 22 10,O 23 (.bin .leq t22 (I 12))] [22]) (zC t23 (zQ (oQ [M 24 0,M 25 1,M 26 2,O 27 (.call (.f ybs) [t24,t25,t26])] [0,1,2,3,8,9,10,23,24,25,26,27]) .ret) .skip)) (.cut (.seq (.seq (.ops [M 28 3,O 29 (.bin .eql t28 (I 0))] [] [23,28]) (.cond t29 (.seq (.ops [M 30 0,M 31 1,M 32 2,O 33 (.call (.f 119) [t30,t31,t32])] [] [0,1,2,3,8,9,10,29,30,31,32,33]) .ret) .skip)) (.seq (.seq (.ops [M 34 8,O 35 (.un .not t34)] [] [29,34]) (.cond t35 (.seq (.ops [M 36 0,M 37 1,M 38 2,O 39 (.call (.f 120) [t36,t37,t38])] [] (zR 35 5)) (.ops [M 40 3,O 41 (.bin .sub t40 (I 1)),M 3 41] [] [40,41])) .skip)) (.seq (.ops [M 43 0,M 44 1,M 45 2,O 46 (.call (.f 121) [t43,t44,t45]),M 42 46,O 47 (.ext t42 0),O 48 (.ext t42 1),M 11 47,M 12 48] [] [35,42,43,44,45,46,47,48]) (.seq (.seq (.ops [M 49 12,O 50 (.bin .eql t49 (I 2))] [] [49]) (.cond t50 (.seq (.ops [M 51 0,M 52 1,M 53 2,O 54 (.call (.f 122) [t51,t52,t53])] [] [12,50,51,52,53,54]) (.seq (.ops [M 55 2,O 56 (.bin .sub t55 (I 1)),M 57 11,M 58 1,oX 59 .sub 57 58,oX 60 .sub 56 59,M 11 60] [] (zR 55 6)) (.ops [O 12 (.mv (I 1))] [] []))) .skip)) (.seq (.seq (.ops [M 61 8,M 62 61,zT 63 62 (.mv t9),O 64 (.pick t62 t63 (.c (.bool false))),M 65 64,zT 66 65 (.mv t12),zT 67 65 (.bin .eql t66 (I 1)),O 68 (.pick t65 t67 (.c (.bool false)))] [] [12,50,61,62,63,64,65,66,67]) (.cond t68 (.seq (.ops [M 69 0,M 70 1,M 71 2,O 72 (.call (.f 123) [t69,t70,t71])] [] (zR 68 4)) (.cond t72 .ret .skip)) .skip)) (.seq (.seq (.ops [M 73 1,O 74 (.bin .gtr t73 (I 0)),M 75 74,zT 76 75 (.mv t0),zT 77 75 (.mv t1),zT 78 75 (.bin .sub t77 (I 1)),zT 79 75 (.iad 1 t76 t78),zT 80 75 (.load false 1 t79),zT 81 75 (.mv t0),zT 82 75 (.mv t11),zT 83 75 (.iad 1 t81 t82),zT 84 75 (.load false 1 t83),zT 85 75 (.call (.f ycQ) [t80,t84]),zT 86 75 (.un .not t85),O 87 (.pick t75 t86 (.c (.bool false)))] [(3,4),(3,5),(3,8),(4,8),(5,8),(6,8),(7,8),(3,9),(4,9),(5,9),(6,9),(7,9),(8,9),(3,10),(4,10),(5,10),(6,10),(7,10),(3,11),(4,11),(5,11),(6,11),(7,11)] [68,72,73,74,75,76,77,78,79,80,81,82,83,84,85,86]) (.cond t87 (.seq (.ops [M 88 0,M 89 1,M 90 2,M 91 11,O 92 (.call (.f 125) [t88,t89,t90,t91]),M 13 92] [] [1,10,11,87,88,89,90,91,92]) (.seq (.ops [M 93 13,M 1 93] [] [13,93]) (.exit 1))) .skip)) (.seq (.ops [M 95 0,M 96 1,M 97 2,M 98 11,O 99 (.call (.f 126) [t95,t96,t97,t98]),M 94 99,O 100 (.ext t94 0),O 101 (.ext t94 1),M 14 100,M 15 101] [] [8,9,11,87,94,95,96,97,98,99,100,101]) (.seq (.ops [M 102 15,M 9 102] [] [15,102]) (.seq (.ops [M 103 14,M 104 1,oX 105 .sub 103 104,M 106 2,M 107 14,oX 108 .sub 106 107,M 16 105,M 17 108] [] (zR 103 6)) (.seq (.ops [M 109 10,O 110 (.bin .quo t109 (I 8)),M 18 110] [] [10,109,110]) (.seq (.ops [M 111 16,M 112 17,oX 113 .lss 111 112] [] [111,112]) (.cond t113 (.seq (.ops [M 114 16,M 115 18,oX 116 .geq 114 115,M 8 116] [] [16,17,18,113,114,115,116]) (.seq (.ops [M 117 0,M 118 1,M 119 14,M 120 3,O 121 (.call (.f ybU) [t117,t118,t119,t120])] [] [1,117,118,119,120,121]) (.ops [M 122 14,O 123 (.bin .add t122 (I 1)),M 1 123] [] [14,122,123]))) (.seq (.ops [M 124 17,M 125 18,oX 126 .geq 124 125,M 8 126] [] [16,17,18,113,124,125,126]) (.seq (.ops [M 127 0,M 128 14,O 129 (.bin .add t128 (I 1)),M 130 2,M 131 3,O 132 (.call (.f ybU) [t127,t129,t130,t131])] [] [2,127,128,129,130,131,132]) (.ops [M 133 14,M 2 133] [] [14,133])))))))))))))))))))
def yhJ:TFn:=⟨4,[],(zQ (oQ [O 8 (.mv (.c (.bool true)))] []) (zQ (oQ [O 9 (.mv (.c (.bool true)))] []) (zB 0 (.loop 82372100 yld))))⟩
def ygD:TFn:=tl [] [] [] [(1,[0,2,5,5005]),(0,[3,4])] Proofs.Tryz.f46
def ygY:TFn:=tl [(zI,0,[39,40,48,49,66,67,70,71,122,123]),(zE,0,[51,98]),(z2,0,[92]),(zK,0,[99,101]),((.agg [.i .i64,.i .i64,.i .i64]),0,[153,154,160,165,177,179])] [(0,42112300),(2,42112301),(4,42112302)] [143,161,166,4,6,7,8,9,19,24,26] [(34,[4,18,21,173,5008]),(33,[171,172]),(32,[148,5003,169,170]),(31,[168]),(30,[26,157,163,5004]),(29,[26,157,5005]),(28,[25,155,156]),(27,[151,5003]),(24,[6,7,19,118,5003,146,147]),(23,[145]),(22,[12,23,24,135,139,5005]),(21,[4,6,7,18,19,21,23,24,118,119,120,135,5003]),(20,[134]),(19,[124,5009]),(17,[121,122,123]),(15,[1]),(13,[20,111,5006]),(12,[105,108,109,110]),(11,[1,4,6,7,105,106,107]),(10,[14,16,17,80,5024]),(9,[15,58,74,5005]),(7,[59,60]),(8,[58,61,5012]),(6,[55,56,57]),(4,[13,30,34,5020]),(3,[1,4,6,7,13,30,5003]),(2,[29]),(1,[27,28]),(0,[0,2,3,12])] Proofs.Tryz.f17
def ypG:TC:=yck ygY 42112300
def ypH:TC:=yck ygY 42112301
def ypI:TC:=yck ygY 42112302
def ymV:TFn:=tl [(zK,0,[25,27]),((.agg [.d,.i .i64,.i .i64,.i .i64,.i .i64]),0,[37,56,57,64,70,74,76,83,85,87,103,107,100041]),((.agg [.d]),0,[68,100046]),(zI,0,[71,72]),(zD,0,[79,100079]),(.raw,8,[111]),(zE,0,[114])] [(0,682800),(2,682801)] [39,78,110,2,5,6,9,10,11] [(22,[5,8,51,112,113,114]),(21,[9,11,12,13,99,5012]),(20,[10,14,95,98]),(19,[5,8,5006,95,96,97]),(18,[94]),(17,[66,80,5013]),(16,[9,66,5013]),(15,[63,64,65]),(14,[58,5004]),(13,[51,5006]),(12,[49,50]),(11,[6,47,48]),(10,[0,32,33,34,43,5003]),(9,[42]),(8,[7,36,5005]),(7,[34,35]),(5,[31]),(4,[4,21,24,5006]),(3,[0,5,21,22,23]),(2,[20]),(1,[15,5004]),(0,[3,4])] Proofs.Tryz.f9
def ywn:TC:=yck ymV 682800
def ywo:TC:=yck ymV 682801
def yxG:TFn:=tl [] [] [] [(5,[0,11,5008]),(4,[0,11]),(3,[9,10]),(2,[0,9]),(1,[4,5004]),(0,[2,3])] Proofs.Tryz.f7
def yxH:TFn:=tl [] [] [2,3] [(1,[2,3,5,5003]),(0,[0,1,4])] Proofs.Tryz.f37
def ywp:TFn:=tl [(z4,0,[19,20,23,24])] [(0,27088800)] [] [(8,[0,1,5,14]),(5,[15,16,25]),(7,[0,1,5,25]),(6,[14,17,5007]),(4,[11,12,13]),(3,[10]),(2,[0,1,10]),(1,[6,5003]),(0,[4])] Proofs.Tryz.f33
def ypJ:TC:=yck ywp 27088800
def ywq:TFn:=tl [((.agg [.d]),0,[7,10,15,21,26]),(zD,0,[23,24,28,29])] [(0,70742100)] [2,3] [(8,[2,3,5,17]),(5,[18,19,31]),(7,[2,3,5,31]),(6,[17,20,5010]),(4,[13,5003]),(3,[12]),(2,[2,3,12]),(1,[6,5005]),(0,[0,1,4])] Proofs.Tryz.f11
def ypK:TC:=yck ywq 70742100
def ywr:TFn:=tl [(zI,0,[19,20,23,24])] [(0,14397100)] [] [(8,[0,1,5,14]),(5,[15,16,25]),(7,[0,1,5,25]),(6,[14,17,5007]),(4,[11,12,13]),(3,[10]),(2,[0,1,10]),(1,[6,5003]),(0,[4])] Proofs.Tryz.f38
def ypL:TC:=yck ywr 14397100
def yB0:TFn:=tl [] [] [28,54,74,79,1,2,3,4,5,8,9] [(5,[1,5006,9,5005,41,5048]),(4,[37,5003]),(3,[8,25,5011]),(2,[19,5005]),(1,[15,5003]),(0,[0])] Proofs.Tryz.f16
def yFu:TFn:=tl [] [] [] [(3,[0,4,10,11]),(2,[0,4,5005]),(1,[3]),(0,[2])] Proofs.Tryz.f48
def yyR:TFn:=tl [] [(0,16774900)] [] [(3,[0,1,6,11]),(2,[6,5004]),(1,[5]),(0,[4])] Proofs.Tryz.f47
def ypM:TC:=yck yyR 16774900
def yB1:TFn:=tl [(z2,0,[4,8,13,18,23,26])] [] [1] [(3,[30]),(2,[30]),(1,[1,3,5026]),(0,[0,2])] Proofs.Tryz.f18
def yB2:TFn:=tl [] [] [4] [(5,[5,7,9,10,11,35,5014]),(4,[6,26,5008]),(3,[8,20,5005]),(2,[1,16,5003]),(1,[0,12,5003])] Proofs.Tryz.f49
def yDt:TFn:=tl [((.agg [.i .u64,.i .u64]),0,[6,8,12,14,18,20])] [] [2,3] [(1,[2,3,5,5018]),(0,[0,1,4])] Proofs.Tryz.f50
def yDu:TFn:=tl [(z2,0,[8,11,15,18,21,25,28,32])] [] [2,3,5,6] [(6,[5,6,33,37,38,39]),(5,[5,6,33,5003]),(4,[2,31,32]),(3,[3,13,17,5013]),(2,[2,3,13,5003]),(1,[7,5005]),(0,[0,1,4])] Proofs.Tryz.f19
def yB3:TFn:=tl [(z2,0,[10])] [] [3] [(1,[0,3,5,5014]),(0,[1,4])] Proofs.Tryz.f51
def yB4:TFn:=tl [] [] [2,3,4] [(3,[2,3,7,9]),(2,[2,3,7,8]),(1,[5,6]),(0,[0,1])] Proofs.Tryz.f84
def yzF:TFn:=tl [] [] [2,3,4] [(3,[2,3,7,9]),(2,[2,3,7,8]),(1,[5,6]),(0,[0,1])] Proofs.Tryz.f85
def yDv:TFn:=tl [] [] [2,3] [(3,[2,3,7,10,11]),(2,[2,3,7,8,9]),(1,[5,6]),(0,[0,1,4])] Proofs.Tryz.f54
def yFv:TFn:=tl [(z2,0,[4,100006])] [] [1,2] [(2,[1,7]),(1,[3,5003]),(0,[0])] Proofs.Tryz.f127
def yDw:TFn:=tl [((.agg [.i .u64,.i .u64]),0,[8,10,13,15,19])] [] [2,3,4] [(5,[5,6,20,23,24,25]),(4,[20,21,22]),(3,[2,17,18,19]),(2,[3,12,5004]),(1,[7,5004]),(0,[0,1])] Proofs.Tryz.f87
def yB5:TFn:=tl [((.agg [.i .u64,.i .u64]),0,[7,9,12,14,20,22])] [] [2,3,4] [(4,[2,3,5,15,18,5006]),(3,[15,16,17]),(2,[11,5003]),(1,[6,5004]),(0,[0,1])] Proofs.Tryz.f88
def yt6:TFn:=tl [((.agg [.i .u64,.i .u64]),0,[15,23,42,100044])] [(0,22549700)] [2,4,6] [(14,[1,2,6,7,8,11,45,46]),(5,[12,13,37]),(13,[41,5003]),(12,[37,5003]),(11,[35,36]),(10,[32,33,34]),(9,[9,21,28,5003]),(8,[21,5006]),(7,[20]),(6,[11,14,5005]),(4,[10]),(0,[0,5])] Proofs.Tryz.f89
def ypN:TC:=yck yt6 22549700
def yDx:TFn:=tl [((.agg [.i .u64,.i .u64]),0,[10,14,19,24,29,32]),(z2,0,[37,100039])] [] [4,5,6,8] [(6,[8,35,40]),(5,[35,5004]),(4,[0]),(3,[4,5,26,28,5006]),(2,[0,4,5,26,27]),(1,[9,5016]),(0,[1,2,7])] Proofs.Tryz.f55
def yFw:TFn:=tl [(z2,0,[25,28,32,35,41,44,50,56,59,72,96,101])] [] [2,3,4,7,8,10,11,14] [(17,[2,3,6,9,13,14,93,5015]),(16,[10,15,87,5005]),(15,[12,84,85,86]),(14,[11,76,78,5005]),(13,[2,3,6,9,10,76,77]),(12,[7,8,61,67,74,75]),(11,[71,72,73]),(10,[7,8,9,67,5003]),(9,[65,66]),(8,[61,5003]),(7,[55,5005]),(6,[52,53,54]),(5,[49,50,51]),(4,[31,5017]),(3,[19,24,5006]),(2,[2,3,19,5004]),(1,[16,17,18]),(0,[0,1,5])] Proofs.Tryz.f53
def yFx:TFn:=tl [] [] [2,3,4] [(3,[2,3,9,14,5005]),(2,[2,3,9,5004]),(1,[6,7,8]),(0,[0,1,5])] Proofs.Tryz.f86
def yFy:TFn:=tl [(z2,0,[17,20,24,27,31,34,39,44,48,53,59,64])] [] [2,3,4] [(4,[2,3,6,7,30,5041]),(3,[11,16,5013]),(2,[2,3,11,5004]),(1,[8,9,10]),(0,[0,1,5])] Proofs.Tryz.f21
def yB6:TFn:=tl [(zK,0,[16,24,37,56]),(zI,0,[18,19,27,28,39,40,58,59])] [] [4,6,7,8,10,11,12] [(7,[1,4,12,13,51,54,5009]),(6,[1,4,12,13,51,52,53]),(5,[50]),(4,[10,11,42,44,5005]),(3,[1,4,10,11,42,43]),(2,[31,5010]),(1,[6,7,14,5016]),(0,[0,2,3,9])] Proofs.Tryz.f52
def yt7:TFn:=tl [(zK,0,[19,25,39])] [(0,92446900)] [3,4,5,6,8,10] [(15,[3,4,5,8,9,41,66]),(8,[11,42,43,63]),(14,[3,4,5,8,9,11,63,64,65]),(13,[62]),(12,[10,53,56,5005]),(11,[3,4,5,8,5003,53,54,55]),(10,[52]),(9,[41,44,5007]),(7,[37,5003]),(5,[34,36]),(4,[3,4,5,34,35]),(3,[14,18,5015]),(2,[3,4,5,14,5003]),(1,[12,13]),(0,[0,1,2,7])] Proofs.Tryz.f20
def ypO:TC:=yck yt7 92446900
def ygE:TFn:=tl [(zE,0,[36,85,88,174]),(zI,0,[155,156,159,160,177,178]),(zK,0,[179,180])] [(0,76325801),(2,76325800)] [4,6,7,9,10,20,21,23,24,26,28,30] [(28,[1,4,6,7,10,11,14,15,17,143,228]),(12,[144,145,227]),(27,[1,4,6,7,10,11,14,15,17,227]),(26,[25,26,27,29,30,31,209,5017]),(25,[22,28,202,5006]),(24,[24,195,5006]),(23,[20,21,23,188,5006]),(22,[181,5006]),(21,[167,173,5007]),(20,[167,5005]),(19,[18,166]),(18,[19,148,163,164,165]),(16,[149,150]),(17,[148,151,5011]),(15,[146,147]),(13,[143]),(11,[141,142]),(10,[140]),(9,[1,4,6,7,10,11,14,15,140]),(8,[12,16,91,5048]),(7,[9,84,5006]),(6,[13,69,79,5004]),(5,[1,4,6,7,9,5004,69,5009]),(4,[68]),(3,[55,57,5010]),(2,[1,4,6,7,55,56]),(1,[32,5022]),(0,[0,2,3,8])] Proofs.Tryz.f4
def yle:TC:=yck ygE 76325800
def ypP:TC:=yck ygE 76325801
def tab:List (Nat×AFn):=[(yiX,yBN.fn),(yeJ,yku.fn),(yiY,yBO.fn),(yha,yt3.fn),(yiZ,ymS.fn),(yja,yBP.fn),(yn8,yyQ.fn),(yil,yGF.fn),(yjb,yBQ.fn),(yff,ymg.fn),(yfg,ymh.fn),(yc1,yqZ.fn),(ycD,ymT.fn),(yc2,yEE.fn),(yeK,yq0.fn),(yk5,yDr.fn),(ycE,yxC.fn),(yc3,yzA.fn),(yeq,yt4.fn),(yde,yxD.fn),(ydP,yip.fn),(ycF,yxE.fn),(yef,yq1.fn),(ydl,yoj.fn),(yh1,yFr.fn),(ydQ,ypx.fn),(yc4,ymU.fn),(yhF,yq2.fn),(ydH,yBR.fn),(ydf,yxF.fn),(ydx,ywl.fn),(yeL,yzB.fn),(ycK,ysT.fn),(yhG,yq3.fn),(yjc,yBS.fn),(ydR,yzC.fn),(yer,yBT.fn),(yeM,yzD.fn),(ykq,yFs.fn),(ydS,ypA.fn),(ykr,ysU.fn),(yn9,yFt.fn),(yet,yBU.fn),(yfz,yBV.fn),(ydI,yBW.fn),(yhH,yq4.fn),(ydT,ypE.fn),(ygz,ykv.fn),(yjd,yBX.fn),(yhb,yBY.fn),(ye9,yoM.fn),(yt2,yt5.fn),(yje,yBZ.fn),(yeg,yq5.fn),(yk6,yDs.fn),(yeN,yzE.fn),(yaO,ya3.fn),(ybW,ycT.fn),(ya2,ybx.fn),(yaU,yuv.fn),(yyP,yI9.fn),(yk7,yHO.fn),(yfh,yuw.fn),(ycQ,ywm.fn),(ybs,ybt.fn),(ybU,yhJ.fn),(yeO,ygD.fn),(yd5,ygY.fn),(yjf,ymV.fn),(ygW,yxG.fn),(ygX,yxH.fn),(yk8,ywp.fn),(yk9,ywq.fn),(yla,ywr.fn),(yjg,yB0.fn),(ygA,yFu.fn),(yh2,yyR.fn),(yfA,yB1.fn),(yfB,yB2.fn),(yim,yDt.fn),(ydU,yDu.fn),(yjh,yB3.fn),(yji,yB4.fn),(yhI,yzF.fn),(ygB,yDv.fn),(yoa,yFv.fn),(yin,yDw.fn),(yjj,yB5.fn),(yjk,yt6.fn),(yio,yDx.fn),(yks,yFw.fn),(yob,yFx.fn),(ykt,yFy.fn),(yjl,yB6.fn),(yjm,yt7.fn),(ygC,ygE.fn)]
def quiL:List Nat:=[yiX,yeJ,yiY,yha,yiZ,yja,yn8,yil,yjb,yff,yfg,yc1,ycD,yc2,yeK,yk5,ycE,yc3,yeq,yde,ydP,ycF,yef,ydl,yh1,ydQ,yc4,yhF,ydH,ydf,ydx,yeL,ycK,yhG,yjc,ydR,yer,yeM,ygx,ygy,ykq,ydS,ykr,yn9,yet,yfz,ydI,yhH,ydT,yjd,yhb,yje,yeg,yk6,yeN,yaU,yyP,yk7,yfh,ycQ,yd5,yjf,ygW,ygX,yk8,yk9,yla,yjg,ygA,yh2,yfA,yfB,yim,ydU,yjh,yji,yhI,ygB,yoa,yin,yjj,yjk,yio,yks,yob,ykt,yjl,yjm,ygC]
def cloL:yep:=[(yc2,1,8)]
def gloL:List (Nat×PV):=[]
def E (ef:Es):Env:=(ymR ygx ygy tab quiL cloL gloL ef)
def E0C:Env:=ymf ygx ygy tab quiL cloL gloL
def yEF:List Nat:=[]
abbrev EG (e:Es):Prop:=EffG E yEF e
theorem ybm:EG []:=⟨fun _ _ _ _ h=>(by cases h),fun _ _ _ _=>rfl⟩
theorem okU {e:Es} (he:EG e) {P:EP} {S:SE} {d n:Nat} {t:TFn} {s:Sg} {w:s.W} (hq:EqW S d t s w) (hS:SEOk P S) (hR:ymP P S.E (ytX S d) t.body) (hl:LpOk P S.E S.lp [] t.body) (hE:S.E=E e:=by rfl) (hs:yvd ygx ygy cloL n=false:=by kernel_rfl) (hm:memN yEF n=false:=by kernel_rfl) (hf:S.E.fns n=some t.fn:=by kernel_rfl) (hu:S.E.qui n=true:=by kernel_rfl) (hn:S.E.nl n=false:=by kernel_rfl):∀ az K,s.pw w az K→∃ r,K r∧AnsP P n az r:=okW hq hS hR hl (fun _=>by rw [hE];exact ybo hs _) (by rw [hE];exact he.num _ hm) hf hu hn
abbrev ycu:Type:=Ls→(Ls→Prop)→Prop
def yc5 (p0:Ls) (K:Ls→Prop):Prop:=yEB 1 8 p0 K
def ypQ (w:Ls→(Ls→Prop)→Prop) (az:Ls) (K:PV→Prop):Prop:=ywg w az K
def ypR (az:Ls) (K:PV→Prop):Prop:=ywh 1 8 az K
theorem ypS (e:Es) (_:EG e):OkF (E e) ypR yc2:=yFo (by kernel_rfl) (by kernel_rfl) (by kernel_rfl)
abbrev yyS:Type:=Int→Int→Int→(Int→Int→Prop)→Prop
abbrev yyT:Type:=Int→Int→Int→(Int→Int→Prop)→Prop
theorem yDy (e:Es) (_:EG e):OkF (E e) ypk ygx:=yFp
theorem yDz (e:Es) (_:EG e):OkF (E e) ypm ygy:=yFq (by kernel_rfl)
set_option maxRecDepth 100000
abbrev yae:Type:=Int→(Int→Prop)→Prop
def yjQ (p0:Int) (K:Int→Prop):Prop :=
 (cbr (decide (p0<(0:Int)))
 (K (IntKind.u64.wrap ((0:Int)-(IntKind.u64.wrap p0))))
 (K (IntKind.u64.wrap p0)))
def yc6:yae:=yjQ
def pt0:VPt:=vI IntKind.i64
def pt1:LPt:=lC pt0 lN
def yoN:Sg:=⟨pt1,Int→Prop,fun K=>(fun r0=>K (.int .u64 r0))⟩
def yxI (e:Es):SE:=sE (E e) [] lp0
theorem yxJ (e:Es):EqW (yxI e) 6 yzA yoN yjQ:=fun _ _=>by kernel_rfl
theorem yfa (e:Es) (he:EG e):OkF (E e) (yoN.pw yc6) yc3:=okU he (yxJ e) (yas (Sub.uni _) trivial trivial he.ok) ymP.flat (yan (by kernel_rfl))
abbrev yav:Type:=Int→Int→(Int→Prop)→Prop
def yd0 (x0:Int→Int→Bool→Prop):Nat→Int→Int→Prop
 | 0,_,_=>False
 | n+1,i0,i1 =>
 (cbr (decide (i1>(0:Int)))
 (asr (!(decide (i1=(0:Int))))
 (yd0 x0 n i1 (Int.tmod i0 i1)))
 (x0 i0 i1 false))
def ylf (p0 p1:Int) (K:Int→Prop):Prop :=
 (∃ n:Nat,yd0
 (fun a _ _=>(K a))
 n p0 p1)
def yci:yav:=ylf
def pt2:VPt:=vI IntKind.u64
def pt3:LPt:=lC pt2 lN
def pt4:LPt:=lC pt2 pt3
def yq6:Sg:=⟨pt4,Int→Prop,fun K=>(fun r0=>K (.int .u64 r0))⟩
def yux (Q:Qx):Int→Int→Bool→Prop:=(fun i0 i1 b2=>Q (.exit 0) [(0,.v (.int .u64 i0)),(1,.v (.int .u64 i1)),(6,.v (.bool b2))] [])
def pt5:Pat Sta:=pS hN (fV 0 pt2 (fV 1 pt2 fN)) fN
def ymW (Q:Qx):List St:=[⟨pt5,yd0 (yux Q)⟩]
def yq7:LP:=lpS [(32725300,ymW)]
def ylg (e:Es):SE:=sE (E e) [] (yq7)
theorem yoO (e:Es) (he:EG e):SEOk (Uni (E e)) (ylg e):=yas (Sub.uni _) trivial trivial he.ok
theorem ysV (e:Es):ybZ (ylg e) 5 a ypv false (ymW):=fun _=>⟨fun _=>by kernel_rfl,fun _ _=>by kernel_rfl,trivial⟩
theorem ysW (e:Es) (he:EG e):LpT (Uni (E e)) (yq7) [] 32725300 (.loop 32725300 ypv):=fun _ _ _=>yqU.st (Sub.uni _) (yaF (yoO e he) 5) (YOk.no _ _) (yan (by kernel_rfl)) (ysV e _)
theorem yzG (e:Es):EqW (ylg e) 6 yt4 yq6 ylf:=fun _ _=>by kernel_rfl
theorem yhK (e:Es) (he:EG e):OkF (E e) (yq6.pw yci) yeq:=okU he (yzG e) (yoO e he) ymP.flat (ya5 (l:=[(32725300,.loop 32725300 ypv)]) ⟨ysW e he,trivial⟩ (by kernel_rfl))
def yiu (a0:yae) (a1:yav) (p0 p1:Int) (K:Int→Prop):Prop :=
 (cbr (decide (p1<(1:Int)))
 (K (8:Int))
 (a0 p0 (fun a =>
 (cbr (decide ((if (IntKind.u64.wrap p1)>a then (IntKind.u64.wrap p1) else a)>(1000000000000000000:Int)))
 (K (8:Int))
 (a0 p0 (fun b =>
 (a1 b (IntKind.u64.wrap p1) (fun c =>
 (cbr (decide (c>(1:Int)))
 (K (8:Int))
 (K (0:Int)))))))))))
def ybu:yav:=yiu yc6 yci
def pt6:LPt:=lC pt0 pt1
def pt7:VPt:=vA pt6
def pt8:LPt:=lC pt7 lN
def ymX:Sg:=⟨pt8,Int→Prop,fun K=>(fun r0=>K (.int .i64 r0))⟩
def yws (e:Es) (a0:yae) (a1:yav):SE:=sE (E e) [(yc3,yoN.pw a0),(yeq,yq6.pw a1)] lp0
theorem ywt (e:Es) (a0 a1):EqW (yws e a0 a1) 6 yxD ymX (yiu a0 a1):=fun _ _=>by kernel_rfl
theorem yev (e:Es) (he:EG e):OkF (E e) (ymX.pw ybu) yde:=okU he (ywt e _ _) (yas (Sub.uni _) ⟨(yfa e he),(yhK e he),trivial⟩ trivial he.ok) ymP.flat (yan (by kernel_rfl))
abbrev yaz:Type:=Ls→(Int→Prop)→Prop
def ybF (x0:Int→Prop) (x1:Int→Ls→Int→Int→Bool→Prop):Nat→Int→Ls→Int→Int→Prop
 | 0,_,_,_,_=>False
 | n+1,i0,l1,i2,i3 =>
 (cbr (decide (i3<i2))
 (asr (decide ((0:Int)≤i3))
 (asr (decide (i3<(((List.length l1):Nat):Int)))
 (asr (conf zI (List.getD l1 (i3.toNat) .nils))
 (cbr ((yaa (List.getD l1 (i3.toNat) .nils)) != i0)
 (x0 (yaa (List.getD l1 (i3.toNat) .nils)))
 (ybF x0 x1 n i0 l1 i2 (IntKind.i64.wrap (i3+(1:Int))))))))
 (x1 i0 l1 i2 i3 false))
def ye0 (p0:Ls) (K:Int→Prop):Prop :=
 (∃ n:Nat,ybF
 (fun a=>(K a))
 (fun b _ _ _ _=>(K b))
 n (0:Int) p0 (((List.length p0):Nat):Int) (0:Int))
def ydV:yaz:=ye0
def pt9:LPt:=lC vD lN
def ydm:Sg:=⟨pt9,Int→Prop,fun K=>(fun r0=>K (.int .i64 r0))⟩
def ylh (Q:Qx):Int→Prop:=(fun i0=>Q .ret [(2,.v (.int .i64 i0))] [])
def yli (Q:Qx):Int→Ls→Int→Int→Bool→Prop:=(fun i0 l1 i2 i3 b4=>Q (.exit 0) [(3,.v (.int .i64 i0)),(6,.v (.data l1)),(7,.v (.int .i64 i2)),(8,.v (.int .i64 i3)),(9,.v (.bool b4))] [])
def pt10:Pat Frm:=fV 6 vD (fV 7 pt0 (fV 8 pt0 fN))
def ygp (Q:Qx):List St:=[⟨(pS hN (fV 3 pt0 pt10) fN),ybF (ylh Q) (yli Q)⟩]
def yhs:LP:=lpS [(38508400,ygp)]
def ye1 (e:Es):SE:=sE (E e) [] (yhs)
theorem yhc (e:Es) (he:EG e):SEOk (Uni (E e)) (ye1 e):=yas (Sub.uni _) trivial trivial he.ok
theorem ykw (e:Es):ybZ (ye1 e) 5 a ypw false (ygp):=fun _=>⟨fun _=>by kernel_rfl,fun _ _=>by kernel_rfl,trivial⟩
theorem ykx (e:Es) (he:EG e):LpT (Uni (E e)) (yhs) [] 38508400 (.loop 38508400 ypw):=fun _ _ _=>yqU.st (Sub.uni _) (yaF (yhc e he) 5) (YOk.no _ _) (yan (by kernel_rfl)) (ykw e _)
theorem yok (e:Es):EqW (ye1 e) 6 yip ydm ye0:=fun _ _=>by kernel_rfl
theorem yol (e:Es) (he:EG e):OkF (E e) (ydm.pw ydV) ydP:=okU he (yok e) (yhc e he) ymP.flat (ya5 (l:=[(38508400,.loop 38508400 ypw)]) ⟨ykx e he,trivial⟩ (by kernel_rfl))
abbrev yaf:Type:=Int→Int→Int→Int→(Int→Prop)→Prop
def yiv (a0:yav) (a1:yaz) (p0 p1 p2 p3:Int) (K:Int→Prop):Prop :=
 (a0 p0 p1 (fun a =>
 (a0 p2 p3 (fun b =>
 (a1 ([(.int .i64 a),(.int .i64 b)]:Ls) (fun c =>
 (K c)))))))
def ycG:yaf:=yiv ybu ydV
def pt11:LPt:=lC pt7 pt8
def yiw:Sg:=⟨pt11,Int→Prop,fun K=>(fun r0=>K (.int .i64 r0))⟩
def ywu (e:Es) (a0:yav) (a1:yaz):SE:=sE (E e) [(yde,ymX.pw a0),(ydP,ydm.pw a1)] lp0
theorem ywv (e:Es) (a0 a1):EqW (ywu e a0 a1) 6 yxE yiw (yiv a0 a1):=fun _ _=>by kernel_rfl
theorem yew (e:Es) (he:EG e):OkF (E e) (yiw.pw ycG) ycF:=okU he (ywv e _ _) (yas (Sub.uni _) ⟨(yev e he),(yol e he),trivial⟩ trivial he.ok) ymP.flat (yan (by kernel_rfl))
abbrev yby:Type:=Int→(Bool→Prop)→Prop
def yfl (p0:Int) (K:Bool→Prop):Prop :=
 (K (p0 != p0))
def yf0:yby:=yfl
def yix:Sg:=⟨pt1,Bool→Prop,fun K=>(fun r0=>K (.bool r0))⟩
def ypT (e:Es):SE:=sE (E e) [] lp0
theorem ypU (e:Es):EqW (ypT e) 6 yq1 yix yfl:=fun _ _=>by kernel_rfl
theorem ypV (e:Es) (he:EG e):OkF (E e) (yix.pw yf0) yef:=okU he (ypU e) (yas (Sub.uni _) trivial trivial he.ok) ymP.flat (yan (by kernel_rfl))
def yex (a0:yby) (p0 p1:Int) (K:Int→Prop):Prop :=
 (a0 p0 (fun b =>
 (a0 p1 (fun a =>
 (cbr b
 (cbr a
 (K (0:Int))
 (K (-1:Int)))
 (cbr a
 (K (1:Int))
 (cbr (decide (p0<p1))
 (K (-1:Int))
 (cbr (decide (p0>p1))
 (K (1:Int))
 (K (0:Int))))))))))
def ydn:yav:=yex yf0
def ymY:Sg:=⟨pt6,Int→Prop,fun K=>(fun r0=>K (.int .i64 r0))⟩
def ymZ (e:Es) (a0:yby):SE:=sE (E e) [(yef,yix.pw a0)] lp0
theorem ym0 (e:Es) (a0):EqW (ymZ e a0) 6 yoj ymY (yex a0):=fun _ _=>by kernel_rfl
theorem ym1 (e:Es) (he:EG e):OkF (E e) (ymY.pw ydn) ydl:=okU he (ym0 e _) (yas (Sub.uni _) ⟨(ypV e he),trivial⟩ trivial he.ok) ymP.flat (yan (by kernel_rfl))
abbrev ybR:Type:=Int→Int→(Int→Int→Prop)→Prop
def ypW (p0 p1:Int) (K:Int→Int→Prop):Prop :=
 (K (IntKind.u64.wrap ((IntKind.u64.wrap ((IntKind.u64.wrap ((Int.fdiv p0 4294967296)*(Int.fdiv p1 4294967296)))+(Int.fdiv (IntKind.u64.wrap ((IntKind.u64.wrap ((Int.fdiv p0 4294967296)*(IntKind.u64.wrap (BitVec.ofInt IntKind.u64.bits p1&&&BitVec.ofInt IntKind.u64.bits (4294967295:Int)).toNat)))+(Int.fdiv (IntKind.u64.wrap ((IntKind.u64.wrap (BitVec.ofInt IntKind.u64.bits p0&&&BitVec.ofInt IntKind.u64.bits (4294967295:Int)).toNat)*(IntKind.u64.wrap (BitVec.ofInt IntKind.u64.bits p1&&&BitVec.ofInt IntKind.u64.bits (4294967295:Int)).toNat))) 4294967296))) 4294967296)))+(Int.fdiv (IntKind.u64.wrap ((IntKind.u64.wrap (BitVec.ofInt IntKind.u64.bits (IntKind.u64.wrap ((IntKind.u64.wrap ((Int.fdiv p0 4294967296)*(IntKind.u64.wrap (BitVec.ofInt IntKind.u64.bits p1&&&BitVec.ofInt IntKind.u64.bits (4294967295:Int)).toNat)))+(Int.fdiv (IntKind.u64.wrap ((IntKind.u64.wrap (BitVec.ofInt IntKind.u64.bits p0&&&BitVec.ofInt IntKind.u64.bits (4294967295:Int)).toNat)*(IntKind.u64.wrap (BitVec.ofInt IntKind.u64.bits p1&&&BitVec.ofInt IntKind.u64.bits (4294967295:Int)).toNat))) 4294967296)))&&&BitVec.ofInt IntKind.u64.bits (4294967295:Int)).toNat)+(IntKind.u64.wrap ((IntKind.u64.wrap (BitVec.ofInt IntKind.u64.bits p0&&&BitVec.ofInt IntKind.u64.bits (4294967295:Int)).toNat)*(Int.fdiv p1 4294967296))))) 4294967296))) (IntKind.u64.wrap (p0*p1)))
def yeP:ybR:=ypW
def yDA:Sg:=⟨pt4,Int→Int→Prop,fun K=>(fun r0 r1=>K (.tup [(.int .u64 r0),(.int .u64 r1)]))⟩
def yDB (e:Es):SE:=sE (E e) [] lp0
theorem yDC (e:Es):EqW (yDB e) 6 yFr yDA ypW:=fun _ _=>by kernel_rfl
theorem ypX (e:Es) (he:EG e):OkF (E e) (yDA.pw yeP) yh1:=okU he (yDC e) (yas (Sub.uni _) trivial trivial he.ok) ymP.flat (yan (by kernel_rfl))
def ye2 (p0:Int) (K:Bool→Prop):Prop :=
 (K (p0 != p0))
def yfm:yby:=ye2
def yom:Sg:=⟨pt3,Bool→Prop,fun K=>(fun r0=>K (.bool r0))⟩
def yon (e:Es):SE:=sE (E e) [] lp0
theorem yoo (e:Es):EqW (yon e) 6 ypx yom ye2:=fun _ _=>by kernel_rfl
theorem yop (e:Es) (he:EG e):OkF (E e) (yom.pw yfm) ydQ:=okU he (yoo e) (yas (Sub.uni _) trivial trivial he.ok) ymP.flat (yan (by kernel_rfl))
def yeb (a0:yby) (p0 p1:Int) (K:Int→Prop):Prop :=
 (a0 p0 (fun b =>
 (a0 p1 (fun a =>
 (cbr b
 (cbr a
 (K (0:Int))
 (K (-1:Int)))
 (cbr a
 (K (1:Int))
 (cbr (decide (p0<p1))
 (K (-1:Int))
 (cbr (decide (p0>p1))
 (K (1:Int))
 (K (0:Int))))))))))
def yc7:yav:=yeb yfm
def ymu:Sg:=⟨pt4,Int→Prop,fun K=>(fun r0=>K (.int .i64 r0))⟩
def ymv (e:Es) (a0:yby):SE:=sE (E e) [(ydQ,yom.pw a0)] lp0
theorem ymw (e:Es) (a0):EqW (ymv e a0) 6 ymU ymu (yeb a0):=fun _ _=>by kernel_rfl
theorem ymx (e:Es) (he:EG e):OkF (E e) (ymu.pw yc7) yc4:=okU he (ymw e _) (yas (Sub.uni _) ⟨(yop e he),trivial⟩ trivial he.ok) ymP.flat (yan (by kernel_rfl))
def ycL (x0:Int→Prop) (x1:Int→Ls→Int→Int→Bool→Prop):Nat→Int→Ls→Int→Int→Prop
 | 0,_,_,_,_=>False
 | n+1,i0,l1,i2,i3 =>
 (cbr (decide (i3<i2))
 (asr (decide ((0:Int)≤i3))
 (asr (decide (i3<(((List.length l1):Nat):Int)))
 (asr (conf zI (List.getD l1 (i3.toNat) .nils))
 (cbr ((yaa (List.getD l1 (i3.toNat) .nils)) != i0)
 (x0 (yaa (List.getD l1 (i3.toNat) .nils)))
 (ycL x0 x1 n i0 l1 i2 (IntKind.i64.wrap (i3+(1:Int))))))))
 (x1 i0 l1 i2 i3 false))
def yjR (p0:Ls) (K:Int→Prop):Prop :=
 (∃ n:Nat,ycL
 (fun a=>(K a))
 (fun b _ _ _ _=>(K b))
 n (0:Int) p0 (((List.length p0):Nat):Int) (0:Int))
def yhL:yaz:=yjR
def ysX (Q:Qx):Int→Prop:=(fun i0=>Q .ret [(2,.v (.int .i64 i0))] [])
def ysY (Q:Qx):Int→Ls→Int→Int→Bool→Prop:=(fun i0 l1 i2 i3 b4=>Q (.exit 0) [(3,.v (.int .i64 i0)),(6,.v (.data l1)),(7,.v (.int .i64 i2)),(8,.v (.int .i64 i3)),(9,.v (.bool b4))] [])
def ymi (Q:Qx):List St:=[⟨(pS hN (fV 3 pt0 pt10) fN),ycL (ysX Q) (ysY Q)⟩]
def yoP:LP:=lpS [(53260600,ymi)]
def yjS (e:Es):SE:=sE (E e) [] (yoP)
theorem ym2 (e:Es) (he:EG e):SEOk (Uni (E e)) (yjS e):=yas (Sub.uni _) trivial trivial he.ok
theorem yq8 (e:Es):ybZ (yjS e) 5 a ypy false (ymi):=fun _=>⟨fun _=>by kernel_rfl,fun _ _=>by kernel_rfl,trivial⟩
theorem yq9 (e:Es) (he:EG e):LpT (Uni (E e)) (yoP) [] 53260600 (.loop 53260600 ypy):=fun _ _ _=>yqU.st (Sub.uni _) (yaF (ym2 e he) 5) (YOk.no _ _) (yan (by kernel_rfl)) (yq8 e _)
theorem yxK (e:Es):EqW (yjS e) 6 yq2 ydm yjR:=fun _ _=>by kernel_rfl
theorem yxL (e:Es) (he:EG e):OkF (E e) (ydm.pw yhL) yhF:=okU he (yxK e) (ym2 e he) ymP.flat (ya5 (l:=[(53260600,.loop 53260600 ypy)]) ⟨yq9 e he,trivial⟩ (by kernel_rfl))
abbrev yai:Type:=Int→Int→Int→Int→(Int→Int→Prop)→Prop
def ylj (a0:yaf) (a1:yav) (a2:yae) (a3:ybR) (a4:yav) (a5:yaz) (p0 p1 p2 p3:Int) (K:Int→Int→Prop):Prop :=
 (a0 p0 p1 p2 p3 (fun a =>
 (cbr (a !=(0:Int))
 (K (0:Int) a)
 (cbr ((decide (p0<(0:Int))) !=(decide (p2<(0:Int))))
 (a1 p0 p2 (fun c =>
 (K c (0:Int))))
 (a2 p0 (fun d =>
 (a3 d (IntKind.u64.wrap p3) (fun e f =>
 (a2 p2 (fun g =>
 (a3 g (IntKind.u64.wrap p1) (fun h i =>
 (a4 e h (fun j =>
 (a4 f i (fun k =>
 (a5 ([(.int .i64 j),(.int .i64 k)]:Ls) (fun b =>
 (cbr (decide (p0<(0:Int)))
 (K (IntKind.i64.wrap ((0:Int)-b)) (0:Int))
 (K b (0:Int)))))))))))))))))))))
def yaS:yai:=ylj ycG ydn yc6 yeP yc7 yhL
def yzH:Sg:=⟨pt11,Int→Int→Prop,fun K=>(fun r0 r1=>K (.tup [(.int .i64 r0),(.int .i64 r1)]))⟩
def yzI (e:Es) (a0:yaf) (a1:yav) (a2:yae) (a3:ybR) (a4:yav) (a5:yaz):SE:=sE (E e) [(ycF,yiw.pw a0),(ydl,ymY.pw a1),(yc3,yoN.pw a2),(yh1,yDA.pw a3),(yc4,ymu.pw a4),(yhF,ydm.pw a5)] lp0
theorem yzJ (e:Es) (a0 a1 a2 a3 a4 a5):EqW (yzI e a0 a1 a2 a3 a4 a5) 6 yBR yzH (ylj a0 a1 a2 a3 a4 a5):=fun _ _=>by kernel_rfl
theorem yeQ (e:Es) (he:EG e):OkF (E e) (yzH.pw yaS) ydH:=okU he (yzJ e _ _ _ _ _ _) (yas (Sub.uni _) ⟨(yew e he),(ym1 e he),(yfa e he),(ypX e he),(ymx e he),(yxL e he),trivial⟩ trivial he.ok) ymP.flat (yan (by kernel_rfl))
abbrev ycR:Type:=Bool→Int→Int→(Int→Int→Int→Prop)→Prop
def yhk (p0:Bool) (p1 p2:Int) (K:Int→Int→Int→Prop):Prop :=
 (cbr (decide ((if p2>p1 then p2 else p1)>(1000000000000000000:Int)))
 (K (0:Int) (0:Int) (16:Int))
 (cbr p0
 (K (IntKind.i64.wrap ((0:Int)-(IntKind.i64.wrap p1))) (IntKind.i64.wrap p2) (0:Int))
 (K (IntKind.i64.wrap p1) (IntKind.i64.wrap p2) (0:Int))))
def yca:ycR:=yhk
def yuy:Sg:=⟨(lC vB pt4),Int→Int→Int→Prop,fun K=>(fun r0 r1 r2=>K (.tup [(.agg [(.int .i64 r0),(.int .i64 r1)]),(.int .i64 r2)]))⟩
def yuz (e:Es):SE:=sE (E e) [] lp0
theorem yuA (e:Es):EqW (yuz e) 6 ywl yuy yhk:=fun _ _=>by kernel_rfl
theorem yhl (e:Es) (he:EG e):OkF (E e) (yuy.pw yca) ydx:=okU he (yuA e) (yas (Sub.uni _) trivial trivial he.ok) ymP.flat (yan (by kernel_rfl))
abbrev yap:Type:=Int→Int→(Int→Int→Int→Prop)→Prop
def yjT (a0:yae) (a1:yav) (a2:ycR) (p0 p1:Int) (K:Int→Int→Int→Prop):Prop :=
 (cbr (p1 ==(0:Int))
 (K (0:Int) (0:Int) (18:Int))
 (a0 p0 (fun b =>
 (a0 p1 (fun c =>
 (a1 b c (fun a =>
 (asr (!(decide (a=(0:Int))))
 (asr (!(decide (a=(0:Int))))
 (a2 ((decide (p0<(0:Int))) !=(decide (p1<(0:Int)))) (IntKind.u64.wrap (Int.tdiv b a)) (IntKind.u64.wrap (Int.tdiv c a)) (fun d e f =>
 (K d e f))))))))))))
def yaN:yap:=yjT yc6 yci yca
def yxM:Sg:=⟨pt6,Int→Int→Int→Prop,fun K=>(fun r0 r1 r2=>K (.tup [(.agg [(.int .i64 r0),(.int .i64 r1)]),(.int .i64 r2)]))⟩
def yxN (e:Es) (a0:yae) (a1:yav) (a2:ycR):SE:=sE (E e) [(yc3,yoN.pw a0),(yeq,yq6.pw a1),(ydx,yuy.pw a2)] lp0
theorem yxO (e:Es) (a0 a1 a2):EqW (yxN e a0 a1 a2) 6 yzB yxM (yjT a0 a1 a2):=fun _ _=>by kernel_rfl
theorem ygZ (e:Es) (he:EG e):OkF (E e) (yxM.pw yaN) yeL:=okU he (yxO e _ _ _) (yas (Sub.uni _) ⟨(yfa e he),(yhK e he),(yhl e he),trivial⟩ trivial he.ok) ymP.flat (yan (by kernel_rfl))
def ypY (p0:Int) (K:Int→Prop):Prop :=
 (cbr (decide (p0≥(4294967296:Int)))
 (cbr (decide ((Int.fdiv p0 4294967296)≥(65536:Int)))
 (cbr (decide ((Int.fdiv (Int.fdiv p0 4294967296) 65536)≥(256:Int)))
 (asr (decide ((0:Int)≤(IntKind.u8.wrap (Int.fdiv (Int.fdiv (Int.fdiv p0 4294967296) 65536) 256))))
 (asr (decide ((IntKind.u8.wrap (Int.fdiv (Int.fdiv (Int.fdiv p0 4294967296) 65536) 256))<(256:Int)))
 (K (IntKind.i64.wrap ((56:Int)+(IntKind.i64.wrap (yaa (List.getD yfY ((IntKind.u8.wrap (Int.fdiv (Int.fdiv (Int.fdiv p0 4294967296) 65536) 256)).toNat) .nils))))))))
 (asr (decide ((0:Int)≤(IntKind.u8.wrap (Int.fdiv (Int.fdiv p0 4294967296) 65536))))
 (asr (decide ((IntKind.u8.wrap (Int.fdiv (Int.fdiv p0 4294967296) 65536))<(256:Int)))
 (K (IntKind.i64.wrap ((48:Int)+(IntKind.i64.wrap (yaa (List.getD yfY ((IntKind.u8.wrap (Int.fdiv (Int.fdiv p0 4294967296) 65536)).toNat) .nils)))))))))
 (cbr (decide ((Int.fdiv p0 4294967296)≥(256:Int)))
 (asr (decide ((0:Int)≤(IntKind.u8.wrap (Int.fdiv (Int.fdiv p0 4294967296) 256))))
 (asr (decide ((IntKind.u8.wrap (Int.fdiv (Int.fdiv p0 4294967296) 256))<(256:Int)))
 (K (IntKind.i64.wrap ((40:Int)+(IntKind.i64.wrap (yaa (List.getD yfY ((IntKind.u8.wrap (Int.fdiv (Int.fdiv p0 4294967296) 256)).toNat) .nils))))))))
 (asr (decide ((0:Int)≤(IntKind.u8.wrap (Int.fdiv p0 4294967296))))
 (asr (decide ((IntKind.u8.wrap (Int.fdiv p0 4294967296))<(256:Int)))
 (K (IntKind.i64.wrap ((32:Int)+(IntKind.i64.wrap (yaa (List.getD yfY ((IntKind.u8.wrap (Int.fdiv p0 4294967296)).toNat) .nils))))))))))
 (cbr (decide (p0≥(65536:Int)))
 (cbr (decide ((Int.fdiv p0 65536)≥(256:Int)))
 (asr (decide ((0:Int)≤(IntKind.u8.wrap (Int.fdiv (Int.fdiv p0 65536) 256))))
 (asr (decide ((IntKind.u8.wrap (Int.fdiv (Int.fdiv p0 65536) 256))<(256:Int)))
 (K (IntKind.i64.wrap ((24:Int)+(IntKind.i64.wrap (yaa (List.getD yfY ((IntKind.u8.wrap (Int.fdiv (Int.fdiv p0 65536) 256)).toNat) .nils))))))))
 (asr (decide ((0:Int)≤(IntKind.u8.wrap (Int.fdiv p0 65536))))
 (asr (decide ((IntKind.u8.wrap (Int.fdiv p0 65536))<(256:Int)))
 (K (IntKind.i64.wrap ((16:Int)+(IntKind.i64.wrap (yaa (List.getD yfY ((IntKind.u8.wrap (Int.fdiv p0 65536)).toNat) .nils)))))))))
 (cbr (decide (p0≥(256:Int)))
 (asr (decide ((0:Int)≤(IntKind.u8.wrap (Int.fdiv p0 256))))
 (asr (decide ((IntKind.u8.wrap (Int.fdiv p0 256))<(256:Int)))
 (K (IntKind.i64.wrap ((8:Int)+(IntKind.i64.wrap (yaa (List.getD yfY ((IntKind.u8.wrap (Int.fdiv p0 256)).toNat) .nils))))))))
 (asr (decide ((0:Int)≤(IntKind.u8.wrap p0)))
 (asr (decide ((IntKind.u8.wrap p0)<(256:Int)))
 (K (IntKind.i64.wrap ((0:Int)+(IntKind.i64.wrap (yaa (List.getD yfY ((IntKind.u8.wrap p0).toNat) .nils)))))))))))
def ygF:yae:=ypY
def ypZ:Sg:=⟨pt3,Int→Prop,fun K=>(fun r0=>K (.int .i64 r0))⟩
def yDD (e:Es):SE:=sE (E e) [] lp0
theorem yDE (e:Es):EqW (yDD e) 6 yFs ypZ ypY:=fun _ _=>by kernel_rfl
theorem yp0 (e:Es) (he:EG e):OkF (E e) (ypZ.pw ygF) ykq:=okU he (yDE e) (yas (Sub.uni _) trivial trivial he.ok) ymP.flat (yan (by kernel_rfl))
def ye3 (a0:yae) (p0:Int) (K:Int→Prop):Prop :=
 (a0 p0 (fun a =>
 (K (IntKind.i64.wrap ((64:Int)-a)))))
def ybB:yae:=ye3 ygF
def yoq (e:Es) (a0:yae):SE:=sE (E e) [(ykq,ypZ.pw a0)] lp0
theorem yor (e:Es) (a0):EqW (yoq e a0) 6 ypA ypZ (ye3 a0):=fun _ _=>by kernel_rfl
theorem yos (e:Es) (he:EG e):OkF (E e) (ypZ.pw ybB) ydS:=okU he (yor e _) (yas (Sub.uni _) ⟨(yp0 e he),trivial⟩ trivial he.ok) ymP.flat (yan (by kernel_rfl))
abbrev yky:Type:=Int→Int→Int→(Int→Int→Prop)→Prop
mutual
def yg0 (a0:yae) (a:Int→Int→Int→Int→Int→Int→Int→Int→Int→Bool→Prop) (b:Int→Int→Int→Int→Int→Int→Int→Int→Int→Bool→Prop):Nat→Int→Int→Int→Int→Int→Int→Int→Int→Int→Prop
 | 0,_,_,_,_,_,_,_,_,_=>False
 | c+1,i0,i1,i2,i3,i4,i5,i6,i7,i8 =>
 (cbr (decide (i7≥(4294967296:Int)))
 (cbr (decide ((IntKind.u64.wrap (i8+i2))≥(4294967296:Int)))
 (a i0 i1 i2 i3 i4 i5 i6 (IntKind.u64.wrap (i7-(1:Int))) (IntKind.u64.wrap (i8+i2)) true)
 (ycH a0 a b c i0 i1 i2 i3 i4 i5 i6 (IntKind.u64.wrap (i7-(1:Int))) (IntKind.u64.wrap (i8+i2)) false))
 (cbr (decide ((IntKind.u64.wrap (i7*i3))>(IntKind.u64.wrap ((IntKind.u64.wrap ((4294967296:Int)*i8))+i5))))
 (cbr (decide ((IntKind.u64.wrap (i8+i2))≥(4294967296:Int)))
 (a i0 i1 i2 i3 i4 i5 i6 (IntKind.u64.wrap (i7-(1:Int))) (IntKind.u64.wrap (i8+i2)) true)
 (ycH a0 a b c i0 i1 i2 i3 i4 i5 i6 (IntKind.u64.wrap (i7-(1:Int))) (IntKind.u64.wrap (i8+i2)) false))
 (b i0 i1 i2 i3 i4 i5 i6 i7 i8 false)))
def ycH (a0:yae) (a:Int→Int→Int→Int→Int→Int→Int→Int→Int→Bool→Prop) (b:Int→Int→Int→Int→Int→Int→Int→Int→Int→Bool→Prop):Nat→Int→Int→Int→Int→Int→Int→Int→Int→Int→Bool→Prop
 | 0,_,_,_,_,_,_,_,_,_,_=>False
 | c+1,i0,i1,i2,i3,i4,i5,i6,i7,i8,_ =>
 (cbr (decide (i7≥(4294967296:Int)))
 (cbr (decide ((IntKind.u64.wrap (i8+i2))≥(4294967296:Int)))
 (a i0 i1 i2 i3 i4 i5 i6 (IntKind.u64.wrap (i7-(1:Int))) (IntKind.u64.wrap (i8+i2)) true)
 (ycH a0 a b c i0 i1 i2 i3 i4 i5 i6 (IntKind.u64.wrap (i7-(1:Int))) (IntKind.u64.wrap (i8+i2)) false))
 (cbr (decide ((IntKind.u64.wrap (i7*i3))>(IntKind.u64.wrap ((IntKind.u64.wrap ((4294967296:Int)*i8))+i5))))
 (cbr (decide ((IntKind.u64.wrap (i8+i2))≥(4294967296:Int)))
 (a i0 i1 i2 i3 i4 i5 i6 (IntKind.u64.wrap (i7-(1:Int))) (IntKind.u64.wrap (i8+i2)) true)
 (ycH a0 a b c i0 i1 i2 i3 i4 i5 i6 (IntKind.u64.wrap (i7-(1:Int))) (IntKind.u64.wrap (i8+i2)) false))
 (b i0 i1 i2 i3 i4 i5 i6 i7 i8 false)))
end
mutual
def yd6 (a0:yae) (a:Int→Int→Int→Int→Int→Int→Int→Int→Int→Bool→Prop) (b:Int→Int→Int→Int→Int→Int→Int→Int→Int→Bool→Prop):Nat→Int→Int→Int→Int→Int→Int→Int→Int→Int→Prop
 | 0,_,_,_,_,_,_,_,_,_=>False
 | c+1,i0,i1,i2,i3,i4,i5,i6,i7,i8 =>
 (cbr (decide (i8≥(4294967296:Int)))
 (cbr (decide ((IntKind.u64.wrap (i6+i2))≥(4294967296:Int)))
 (a i0 i1 i2 i3 i4 i5 (IntKind.u64.wrap (i6+i2)) i7 (IntKind.u64.wrap (i8-(1:Int))) true)
 (ycI a0 a b c i0 i1 i2 i3 i4 i5 (IntKind.u64.wrap (i6+i2)) i7 (IntKind.u64.wrap (i8-(1:Int))) false))
 (cbr (decide ((IntKind.u64.wrap (i8*i3))>(IntKind.u64.wrap ((IntKind.u64.wrap ((4294967296:Int)*i6))+i4))))
 (cbr (decide ((IntKind.u64.wrap (i6+i2))≥(4294967296:Int)))
 (a i0 i1 i2 i3 i4 i5 (IntKind.u64.wrap (i6+i2)) i7 (IntKind.u64.wrap (i8-(1:Int))) true)
 (ycI a0 a b c i0 i1 i2 i3 i4 i5 (IntKind.u64.wrap (i6+i2)) i7 (IntKind.u64.wrap (i8-(1:Int))) false))
 (b i0 i1 i2 i3 i4 i5 i6 i7 i8 false)))
def ycI (a0:yae) (a:Int→Int→Int→Int→Int→Int→Int→Int→Int→Bool→Prop) (b:Int→Int→Int→Int→Int→Int→Int→Int→Int→Bool→Prop):Nat→Int→Int→Int→Int→Int→Int→Int→Int→Int→Bool→Prop
 | 0,_,_,_,_,_,_,_,_,_,_=>False
 | c+1,i0,i1,i2,i3,i4,i5,i6,i7,i8,_ =>
 (cbr (decide (i8≥(4294967296:Int)))
 (cbr (decide ((IntKind.u64.wrap (i6+i2))≥(4294967296:Int)))
 (a i0 i1 i2 i3 i4 i5 (IntKind.u64.wrap (i6+i2)) i7 (IntKind.u64.wrap (i8-(1:Int))) true)
 (ycI a0 a b c i0 i1 i2 i3 i4 i5 (IntKind.u64.wrap (i6+i2)) i7 (IntKind.u64.wrap (i8-(1:Int))) false))
 (cbr (decide ((IntKind.u64.wrap (i8*i3))>(IntKind.u64.wrap ((IntKind.u64.wrap ((4294967296:Int)*i6))+i4))))
 (cbr (decide ((IntKind.u64.wrap (i6+i2))≥(4294967296:Int)))
 (a i0 i1 i2 i3 i4 i5 (IntKind.u64.wrap (i6+i2)) i7 (IntKind.u64.wrap (i8-(1:Int))) true)
 (ycI a0 a b c i0 i1 i2 i3 i4 i5 (IntKind.u64.wrap (i6+i2)) i7 (IntKind.u64.wrap (i8-(1:Int))) false))
 (b i0 i1 i2 i3 i4 i5 i6 i7 i8 false)))
end
def yp1 (a0:yae) (p0 p1 p2:Int) (K:Int→Int→Prop):Prop :=
 (cbr (p2 ==(0:Int))
 False
 (cbr (decide (p2≤p0))
 False
 (cbr (p0 ==(0:Int))
 (asr (!(decide (p2=(0:Int))))
 (asr (!(decide (p2=(0:Int))))
 (K (IntKind.u64.wrap (Int.tdiv p1 p2)) (Int.tmod p1 p2))))
 (a0 p2 (fun a =>
 (asr (!(decide ((IntKind.u64.wrap a)<(0:Int))))
 (asr (!(decide ((IntKind.u64.wrap a)<(0:Int))))
 (asr (!(decide ((IntKind.u64.wrap ((64:Int)-(IntKind.u64.wrap a)))<(0:Int))))
 (asr (!(decide ((IntKind.u64.wrap a)<(0:Int))))
 (asr (!(decide ((Int.fdiv (IntKind.u64.wrap (p2*2 ^ (min (IntKind.u64.wrap a).toNat IntKind.u64.bits))) 4294967296)=(0:Int))))
 (∃ u:Nat,yg0 a0
 (fun b v c w h i x d _ _=>(asr (!(decide (c=(0:Int))))
 (∃ l:Nat,yd6 a0
 (fun y m _ _ z A _ B n _=>(asr (!(decide (m<(0:Int))))
 (K (IntKind.u64.wrap ((IntKind.u64.wrap (A*(4294967296:Int)))+n)) (Int.fdiv (IntKind.u64.wrap ((IntKind.u64.wrap ((IntKind.u64.wrap (B*(4294967296:Int)))+z))-(IntKind.u64.wrap (n*y)))) (2 ^ (min m.toNat IntKind.u64.bits))))))
 (fun C o _ _ D E _ F p _=>(asr (!(decide (o<(0:Int))))
 (K (IntKind.u64.wrap ((IntKind.u64.wrap (E*(4294967296:Int)))+p)) (Int.fdiv (IntKind.u64.wrap ((IntKind.u64.wrap ((IntKind.u64.wrap (F*(4294967296:Int)))+D))-(IntKind.u64.wrap (p*C)))) (2 ^ (min o.toNat IntKind.u64.bits))))))
 l b v c w x d (IntKind.u64.wrap ((IntKind.u64.wrap ((IntKind.u64.wrap ((IntKind.u64.wrap (h*(4294967296:Int)))+i))-(IntKind.u64.wrap (d*b))))-(IntKind.u64.wrap ((IntKind.u64.wrap (Int.tdiv (IntKind.u64.wrap ((IntKind.u64.wrap ((IntKind.u64.wrap (h*(4294967296:Int)))+i))-(IntKind.u64.wrap (d*b)))) c))*c)))) (IntKind.u64.wrap ((IntKind.u64.wrap ((IntKind.u64.wrap (h*(4294967296:Int)))+i))-(IntKind.u64.wrap (d*b)))) (IntKind.u64.wrap (Int.tdiv (IntKind.u64.wrap ((IntKind.u64.wrap ((IntKind.u64.wrap (h*(4294967296:Int)))+i))-(IntKind.u64.wrap (d*b)))) c)))))
 (fun e G f H j k I g _ _=>(asr (!(decide (f=(0:Int))))
 (∃ l:Nat,yd6 a0
 (fun J q _ _ L M _ N r _=>(asr (!(decide (q<(0:Int))))
 (K (IntKind.u64.wrap ((IntKind.u64.wrap (M*(4294967296:Int)))+r)) (Int.fdiv (IntKind.u64.wrap ((IntKind.u64.wrap ((IntKind.u64.wrap (N*(4294967296:Int)))+L))-(IntKind.u64.wrap (r*J)))) (2 ^ (min q.toNat IntKind.u64.bits))))))
 (fun O s _ _ Q R _ S t _=>(asr (!(decide (s<(0:Int))))
 (K (IntKind.u64.wrap ((IntKind.u64.wrap (R*(4294967296:Int)))+t)) (Int.fdiv (IntKind.u64.wrap ((IntKind.u64.wrap ((IntKind.u64.wrap (S*(4294967296:Int)))+Q))-(IntKind.u64.wrap (t*O)))) (2 ^ (min s.toNat IntKind.u64.bits))))))
 l e G f H I g (IntKind.u64.wrap ((IntKind.u64.wrap ((IntKind.u64.wrap ((IntKind.u64.wrap (j*(4294967296:Int)))+k))-(IntKind.u64.wrap (g*e))))-(IntKind.u64.wrap ((IntKind.u64.wrap (Int.tdiv (IntKind.u64.wrap ((IntKind.u64.wrap ((IntKind.u64.wrap (j*(4294967296:Int)))+k))-(IntKind.u64.wrap (g*e)))) f))*f)))) (IntKind.u64.wrap ((IntKind.u64.wrap ((IntKind.u64.wrap (j*(4294967296:Int)))+k))-(IntKind.u64.wrap (g*e)))) (IntKind.u64.wrap (Int.tdiv (IntKind.u64.wrap ((IntKind.u64.wrap ((IntKind.u64.wrap (j*(4294967296:Int)))+k))-(IntKind.u64.wrap (g*e)))) f)))))
 u (IntKind.u64.wrap (p2*2 ^ (min (IntKind.u64.wrap a).toNat IntKind.u64.bits))) (IntKind.u64.wrap a) (Int.fdiv (IntKind.u64.wrap (p2*2 ^ (min (IntKind.u64.wrap a).toNat IntKind.u64.bits))) 4294967296) (IntKind.u64.wrap (BitVec.ofInt IntKind.u64.bits (IntKind.u64.wrap (p2*2 ^ (min (IntKind.u64.wrap a).toNat IntKind.u64.bits)))&&&BitVec.ofInt IntKind.u64.bits (4294967295:Int)).toNat) (IntKind.u64.wrap (BitVec.ofInt IntKind.u64.bits (IntKind.u64.wrap (p0*2 ^ (min (IntKind.u64.wrap a).toNat IntKind.u64.bits)))|||BitVec.ofInt IntKind.u64.bits (Int.fdiv p1 (2 ^ (min (IntKind.u64.wrap ((64:Int)-(IntKind.u64.wrap a))).toNat IntKind.u64.bits)))).toNat) (Int.fdiv (IntKind.u64.wrap (p1*2 ^ (min (IntKind.u64.wrap a).toNat IntKind.u64.bits))) 4294967296) (IntKind.u64.wrap (BitVec.ofInt IntKind.u64.bits (IntKind.u64.wrap (p1*2 ^ (min (IntKind.u64.wrap a).toNat IntKind.u64.bits)))&&&BitVec.ofInt IntKind.u64.bits (4294967295:Int)).toNat) (IntKind.u64.wrap (Int.tdiv (IntKind.u64.wrap (BitVec.ofInt IntKind.u64.bits (IntKind.u64.wrap (p0*2 ^ (min (IntKind.u64.wrap a).toNat IntKind.u64.bits)))|||BitVec.ofInt IntKind.u64.bits (Int.fdiv p1 (2 ^ (min (IntKind.u64.wrap ((64:Int)-(IntKind.u64.wrap a))).toNat IntKind.u64.bits)))).toNat) (Int.fdiv (IntKind.u64.wrap (p2*2 ^ (min (IntKind.u64.wrap a).toNat IntKind.u64.bits))) 4294967296))) (IntKind.u64.wrap ((IntKind.u64.wrap (BitVec.ofInt IntKind.u64.bits (IntKind.u64.wrap (p0*2 ^ (min (IntKind.u64.wrap a).toNat IntKind.u64.bits)))|||BitVec.ofInt IntKind.u64.bits (Int.fdiv p1 (2 ^ (min (IntKind.u64.wrap ((64:Int)-(IntKind.u64.wrap a))).toNat IntKind.u64.bits)))).toNat)-(IntKind.u64.wrap ((IntKind.u64.wrap (Int.tdiv (IntKind.u64.wrap (BitVec.ofInt IntKind.u64.bits (IntKind.u64.wrap (p0*2 ^ (min (IntKind.u64.wrap a).toNat IntKind.u64.bits)))|||BitVec.ofInt IntKind.u64.bits (Int.fdiv p1 (2 ^ (min (IntKind.u64.wrap ((64:Int)-(IntKind.u64.wrap a))).toNat IntKind.u64.bits)))).toNat) (Int.fdiv (IntKind.u64.wrap (p2*2 ^ (min (IntKind.u64.wrap a).toNat IntKind.u64.bits))) 4294967296)))*(Int.fdiv (IntKind.u64.wrap (p2*2 ^ (min (IntKind.u64.wrap a).toNat IntKind.u64.bits))) 4294967296))))))))))))))))
def yfC:yky:=yp1 ybB
def yDF:Sg:=⟨(lC pt2 pt4),Int→Int→Prop,fun K=>(fun r0 r1=>K (.tup [(.int .u64 r0),(.int .u64 r1)]))⟩
def yoQ (Q:Qx):Int→Int→Int→Int→Int→Int→Int→Int→Int→Bool→Prop:=(fun i0 i1 i2 i3 i4 i5 i6 i7 i8 b9=>Q (.exit 0) [(2,.v (.int .u64 i0)),(8,.v (.int .u64 i1)),(9,.v (.int .u64 i2)),(10,.v (.int .u64 i3)),(11,.v (.int .u64 i4)),(13,.v (.int .u64 i5)),(14,.v (.int .u64 i6)),(15,.v (.int .u64 i7)),(16,.v (.int .u64 i8)),(85,.v (.bool b9))] [])
def yoR (Q:Qx):Int→Int→Int→Int→Int→Int→Int→Int→Int→Bool→Prop:=(fun i0 i1 i2 i3 i4 i5 i6 i7 i8 b9=>Q (.exit 0) [(2,.v (.int .u64 i0)),(8,.v (.int .u64 i1)),(9,.v (.int .u64 i2)),(10,.v (.int .u64 i3)),(11,.v (.int .u64 i4)),(13,.v (.int .u64 i5)),(14,.v (.int .u64 i6)),(15,.v (.int .u64 i7)),(16,.v (.int .u64 i8)),(78,.v (.bool b9))] [])
def yoS (Q:Qx):Int→Int→Int→Int→Int→Int→Int→Int→Int→Bool→Prop:=(fun i0 i1 i2 i3 i4 i5 i6 i7 i8 b9=>Q (.exit 2) [(2,.v (.int .u64 i0)),(8,.v (.int .u64 i1)),(9,.v (.int .u64 i2)),(10,.v (.int .u64 i3)),(14,.v (.int .u64 i4)),(15,.v (.int .u64 i5)),(16,.v (.int .u64 i6)),(17,.v (.int .u64 i7)),(18,.v (.int .u64 i8)),(120,.v (.bool b9))] [])
def yoT (Q:Qx):Int→Int→Int→Int→Int→Int→Int→Int→Int→Bool→Prop:=(fun i0 i1 i2 i3 i4 i5 i6 i7 i8 b9=>Q (.exit 2) [(2,.v (.int .u64 i0)),(8,.v (.int .u64 i1)),(9,.v (.int .u64 i2)),(10,.v (.int .u64 i3)),(14,.v (.int .u64 i4)),(15,.v (.int .u64 i5)),(16,.v (.int .u64 i6)),(17,.v (.int .u64 i7)),(18,.v (.int .u64 i8)),(113,.v (.bool b9))] [])
def yra (a0:yae) (Q:Qx):List St:=[⟨(pS hN (fV 2 pt2 (fV 8 pt2 (fV 9 pt2 (fV 10 pt2 (fV 11 pt2 (fV 13 pt2 (fV 14 pt2 (fV 15 pt2 (fV 16 pt2 fN))))))))) fN),yg0 a0 (yoQ Q) (yoR Q)⟩,⟨(pS hN (fV 2 pt2 (fV 8 pt2 (fV 9 pt2 (fV 10 pt2 (fV 11 pt2 (fV 13 pt2 (fV 14 pt2 (fV 15 pt2 (fV 16 pt2 (fV 85 vB fN)))))))))) fN),ycH a0 (yoQ Q) (yoR Q)⟩]
def yrb (a0:yae) (Q:Qx):List St:=[⟨(pS hN (fV 2 pt2 (fV 8 pt2 (fV 9 pt2 (fV 10 pt2 (fV 14 pt2 (fV 15 pt2 (fV 16 pt2 (fV 17 pt2 (fV 18 pt2 fN))))))))) fN),yd6 a0 (yoS Q) (yoT Q)⟩,⟨(pS hN (fV 2 pt2 (fV 8 pt2 (fV 9 pt2 (fV 10 pt2 (fV 14 pt2 (fV 15 pt2 (fV 16 pt2 (fV 17 pt2 (fV 18 pt2 (fV 120 vB fN)))))))))) fN),ycI a0 (yoS Q) (yoT Q)⟩]
def yp2 (a0:yae):LP:=lpS [(60530100,yra a0),(60530101,yrb a0)]
def ylk (e:Es) (a0:yae):SE:=sE (E e) [(ydS,ypZ.pw a0)] (yp2 a0)
theorem ym3 (e:Es) (he:EG e):SEOk (Uni (E e)) (ylk e ybB):=yas (Sub.uni _) ⟨(yos e he),trivial⟩ trivial he.ok
theorem yww (e:Es) (a0):ybZ (ylk e a0) 5 a ypB false (yra a0):=fun _=>⟨fun _=>by kernel_rfl,fun _ _=>by kernel_rfl,fun _=>by kernel_rfl,fun _ _=>by kernel_rfl,trivial⟩
theorem ywx (e:Es) (he:EG e):LpT (Uni (E e)) (yp2 ybB) [] 60530100 (.loop 60530100 ypB):=fun _ _ _=>yqU.st (Sub.uni _) (yaF (ym3 e he) 5) (YOk.no _ _) (yan (by kernel_rfl)) (yww e _ _)
theorem ywy (e:Es) (a0):ybZ (ylk e a0) 5 a ypC false (yrb a0):=fun _=>⟨fun _=>by kernel_rfl,fun _ _=>by kernel_rfl,fun _=>by kernel_rfl,fun _ _=>by kernel_rfl,trivial⟩
theorem ywz (e:Es) (he:EG e):LpT (Uni (E e)) (yp2 ybB) [] 60530101 (.loop 60530101 ypC):=fun _ _ _=>yqU.st (Sub.uni _) (yaF (ym3 e he) 5) (YOk.no _ _) (yan (by kernel_rfl)) (ywy e _ _)
theorem yDG (e:Es) (a0):EqW (ylk e a0) 6 ysU yDF (yp1 a0):=fun _ _=>by kernel_rfl
theorem ywA (e:Es) (he:EG e):OkF (E e) (yDF.pw yfC) ykr:=okU he (yDG e _) (ym3 e he) ymP.flat (ya5 (l:=[(60530100,.loop 60530100 ypB),(60530101,.loop 60530101 ypC)]) ⟨ywx e he,ywz e he,trivial⟩ (by kernel_rfl))
abbrev ysZ:Type:=Int→Int→Int→(Int→Prop)→Prop
def yp3 (a0:yky) (p0 p1 p2:Int) (K:Int→Prop):Prop :=
 (asr (!(decide (p2=(0:Int))))
 (a0 (Int.tmod p0 p2) p1 p2 (fun _ a =>
 (K a))))
def ygG:ysZ:=yp3 yfC
def yDH:Sg:=⟨(lC pt2 pt4),Int→Prop,fun K=>(fun r0=>K (.int .u64 r0))⟩
def yDI (e:Es) (a0:yky):SE:=sE (E e) [(ykr,yDF.pw a0)] lp0
theorem yDJ (e:Es) (a0):EqW (yDI e a0) 6 yFt yDH (yp3 a0):=fun _ _=>by kernel_rfl
theorem yDK (e:Es) (he:EG e):OkF (E e) (yDH.pw ygG) yn9:=okU he (yDJ e _) (yas (Sub.uni _) ⟨(ywA e he),trivial⟩ trivial he.ok) ymP.flat (yan (by kernel_rfl))
abbrev yaj:Type:=Int→Int→Int→Int→(Int→Int→Int→Prop)→Prop
def yll (a0:yaf) (a1:yav) (a2:yae) (a3:ybR) (a4:yyS) (a5:ysZ) (a6:yky) (a7:ycR) (a8:yyT) (p0 p1 p2 p3:Int) (K:Int→Int→Int→Prop):Prop :=
 (a0 p0 p1 p2 p3 (fun z =>
 (cbr (z !=(0:Int))
 (K (0:Int) (0:Int) z)
 (a1 (IntKind.u64.wrap p1) (IntKind.u64.wrap p3) (fun a =>
 (a2 p0 (fun A =>
 (asr (!(decide (a=(0:Int))))
 (a3 A (IntKind.u64.wrap (Int.tdiv (IntKind.u64.wrap p3) a)) (fun b i =>
 (a2 p2 (fun B =>
 (asr (!(decide (a=(0:Int))))
 (a3 B (IntKind.u64.wrap (Int.tdiv (IntKind.u64.wrap p1) a)) (fun c j =>
 (cbr ((decide (p0<(0:Int))) ==(decide (p2<(0:Int))))
 (a4 i j (0:Int) (fun k C =>
 (a4 b c C (fun d _ =>
 (cbr (d ==(0:Int))
 (cbr (k ==(0:Int))
 (K (0:Int) (1:Int) (0:Int))
 (a5 d k a (fun D =>
 (a1 D a (fun p =>
 (cbr (decide (d≥p))
 (K (0:Int) (0:Int) (16:Int))
 (a6 d k p (fun E _ =>
 (asr (!(decide (a=(0:Int))))
 (asr (!(decide (p=(0:Int))))
 (a3 (IntKind.u64.wrap (Int.tdiv (IntKind.u64.wrap p1) a)) (IntKind.u64.wrap (Int.tdiv (IntKind.u64.wrap p3) p)) (fun F G =>
 (cbr (decide (F>(0:Int)))
 (K (0:Int) (0:Int) (16:Int))
 (a7 (decide (p0<(0:Int))) E G (fun H I J =>
 (K H I J))))))))))))))))
 (a5 d k a (fun L =>
 (a1 L a (fun q =>
 (cbr (decide (d≥q))
 (K (0:Int) (0:Int) (16:Int))
 (a6 d k q (fun M _ =>
 (asr (!(decide (a=(0:Int))))
 (asr (!(decide (q=(0:Int))))
 (a3 (IntKind.u64.wrap (Int.tdiv (IntKind.u64.wrap p1) a)) (IntKind.u64.wrap (Int.tdiv (IntKind.u64.wrap p3) q)) (fun N O =>
 (cbr (decide (N>(0:Int)))
 (K (0:Int) (0:Int) (16:Int))
 (a7 (decide (p0<(0:Int))) M O (fun Q R S =>
 (K Q R S))))))))))))))))))))
 (cbr (decide (b<c))
 (a8 j i (0:Int) (fun l T =>
 (a8 c b T (fun e _ =>
 (cbr (e ==(0:Int))
 (cbr (l ==(0:Int))
 (K (0:Int) (1:Int) (0:Int))
 (a5 e l a (fun U =>
 (a1 U a (fun r =>
 (cbr (decide (e≥r))
 (K (0:Int) (0:Int) (16:Int))
 (a6 e l r (fun V _ =>
 (asr (!(decide (a=(0:Int))))
 (asr (!(decide (r=(0:Int))))
 (a3 (IntKind.u64.wrap (Int.tdiv (IntKind.u64.wrap p1) a)) (IntKind.u64.wrap (Int.tdiv (IntKind.u64.wrap p3) r)) (fun W X =>
 (cbr (decide (W>(0:Int)))
 (K (0:Int) (0:Int) (16:Int))
 (a7 (!(decide (p0<(0:Int)))) V X (fun Y Z va =>
 (K Y Z va))))))))))))))))
 (a5 e l a (fun vb =>
 (a1 vb a (fun s =>
 (cbr (decide (e≥s))
 (K (0:Int) (0:Int) (16:Int))
 (a6 e l s (fun vc _ =>
 (asr (!(decide (a=(0:Int))))
 (asr (!(decide (s=(0:Int))))
 (a3 (IntKind.u64.wrap (Int.tdiv (IntKind.u64.wrap p1) a)) (IntKind.u64.wrap (Int.tdiv (IntKind.u64.wrap p3) s)) (fun vd ve =>
 (cbr (decide (vd>(0:Int)))
 (K (0:Int) (0:Int) (16:Int))
 (a7 (!(decide (p0<(0:Int)))) vc ve (fun vf vg vh =>
 (K vf vg vh))))))))))))))))))))
 (cbr (b == c)
 (cbr (decide (i<j))
 (a8 j i (0:Int) (fun m vi =>
 (a8 c b vi (fun f _ =>
 (cbr (f ==(0:Int))
 (cbr (m ==(0:Int))
 (K (0:Int) (1:Int) (0:Int))
 (a5 f m a (fun vj =>
 (a1 vj a (fun t =>
 (cbr (decide (f≥t))
 (K (0:Int) (0:Int) (16:Int))
 (a6 f m t (fun vk _ =>
 (asr (!(decide (a=(0:Int))))
 (asr (!(decide (t=(0:Int))))
 (a3 (IntKind.u64.wrap (Int.tdiv (IntKind.u64.wrap p1) a)) (IntKind.u64.wrap (Int.tdiv (IntKind.u64.wrap p3) t)) (fun vl vm =>
 (cbr (decide (vl>(0:Int)))
 (K (0:Int) (0:Int) (16:Int))
 (a7 (!(decide (p0<(0:Int)))) vk vm (fun vn vo vp =>
 (K vn vo vp))))))))))))))))
 (a5 f m a (fun vq =>
 (a1 vq a (fun u =>
 (cbr (decide (f≥u))
 (K (0:Int) (0:Int) (16:Int))
 (a6 f m u (fun vr _ =>
 (asr (!(decide (a=(0:Int))))
 (asr (!(decide (u=(0:Int))))
 (a3 (IntKind.u64.wrap (Int.tdiv (IntKind.u64.wrap p1) a)) (IntKind.u64.wrap (Int.tdiv (IntKind.u64.wrap p3) u)) (fun vs vt =>
 (cbr (decide (vs>(0:Int)))
 (K (0:Int) (0:Int) (16:Int))
 (a7 (!(decide (p0<(0:Int)))) vr vt (fun vu vv vw =>
 (K vu vv vw))))))))))))))))))))
 (a8 i j (0:Int) (fun n vx =>
 (a8 b c vx (fun g _ =>
 (cbr (g ==(0:Int))
 (cbr (n ==(0:Int))
 (K (0:Int) (1:Int) (0:Int))
 (a5 g n a (fun vy =>
 (a1 vy a (fun v =>
 (cbr (decide (g≥v))
 (K (0:Int) (0:Int) (16:Int))
 (a6 g n v (fun vz _ =>
 (asr (!(decide (a=(0:Int))))
 (asr (!(decide (v=(0:Int))))
 (a3 (IntKind.u64.wrap (Int.tdiv (IntKind.u64.wrap p1) a)) (IntKind.u64.wrap (Int.tdiv (IntKind.u64.wrap p3) v)) (fun vA vB =>
 (cbr (decide (vA>(0:Int)))
 (K (0:Int) (0:Int) (16:Int))
 (a7 (decide (p0<(0:Int))) vz vB (fun vC vD vE =>
 (K vC vD vE))))))))))))))))
 (a5 g n a (fun vF =>
 (a1 vF a (fun w =>
 (cbr (decide (g≥w))
 (K (0:Int) (0:Int) (16:Int))
 (a6 g n w (fun vG _ =>
 (asr (!(decide (a=(0:Int))))
 (asr (!(decide (w=(0:Int))))
 (a3 (IntKind.u64.wrap (Int.tdiv (IntKind.u64.wrap p1) a)) (IntKind.u64.wrap (Int.tdiv (IntKind.u64.wrap p3) w)) (fun vH vI =>
 (cbr (decide (vH>(0:Int)))
 (K (0:Int) (0:Int) (16:Int))
 (a7 (decide (p0<(0:Int))) vG vI (fun vJ vK vL =>
 (K vJ vK vL)))))))))))))))))))))
 (a8 i j (0:Int) (fun o vM =>
 (a8 b c vM (fun h _ =>
 (cbr (h ==(0:Int))
 (cbr (o ==(0:Int))
 (K (0:Int) (1:Int) (0:Int))
 (a5 h o a (fun vN =>
 (a1 vN a (fun x =>
 (cbr (decide (h≥x))
 (K (0:Int) (0:Int) (16:Int))
 (a6 h o x (fun vO _ =>
 (asr (!(decide (a=(0:Int))))
 (asr (!(decide (x=(0:Int))))
 (a3 (IntKind.u64.wrap (Int.tdiv (IntKind.u64.wrap p1) a)) (IntKind.u64.wrap (Int.tdiv (IntKind.u64.wrap p3) x)) (fun vP vQ =>
 (cbr (decide (vP>(0:Int)))
 (K (0:Int) (0:Int) (16:Int))
 (a7 (decide (p0<(0:Int))) vO vQ (fun vR vS vT =>
 (K vR vS vT))))))))))))))))
 (a5 h o a (fun vU =>
 (a1 vU a (fun y =>
 (cbr (decide (h≥y))
 (K (0:Int) (0:Int) (16:Int))
 (a6 h o y (fun vV _ =>
 (asr (!(decide (a=(0:Int))))
 (asr (!(decide (y=(0:Int))))
 (a3 (IntKind.u64.wrap (Int.tdiv (IntKind.u64.wrap p1) a)) (IntKind.u64.wrap (Int.tdiv (IntKind.u64.wrap p3) y)) (fun vW vX =>
 (cbr (decide (vW>(0:Int)))
 (K (0:Int) (0:Int) (16:Int))
 (a7 (decide (p0<(0:Int))) vV vX (fun vY vZ v0 =>
 (K vY vZ v0))))))))))))))))))))))))))))))))))))))
def ybv:yaj:=yll ycG yci yc6 yeP yhZ ygG yfC yca yh0
def ydW:Sg:=⟨pt11,Int→Int→Int→Prop,fun K=>(fun r0 r1 r2=>K (.tup [(.agg [(.int .i64 r0),(.int .i64 r1)]),(.int .i64 r2)]))⟩
def yzK (e:Es) (a0:yaf) (a1:yav) (a2:yae) (a3:ybR) (a4:yyS) (a5:ysZ) (a6:yky) (a7:ycR) (a8:yyT):SE:=sE (E e) [(ycF,yiw.pw a0),(yeq,yq6.pw a1),(yc3,yoN.pw a2),(yh1,yDA.pw a3),(ygx,ypj a4),(yn9,yDH.pw a5),(ykr,yDF.pw a6),(ydx,yuy.pw a7),(ygy,ypl a8)] lp0
theorem yzL (e:Es) (a0 a1 a2 a3 a4 a5 a6 a7 a8):EqW (yzK e a0 a1 a2 a3 a4 a5 a6 a7 a8) 6 yBU ydW (yll a0 a1 a2 a3 a4 a5 a6 a7 a8):=fun _ _=>by kernel_rfl
theorem yf1 (e:Es) (he:EG e):OkF (E e) (ydW.pw ybv) yet:=okU he (yzL e _ _ _ _ _ _ _ _ _) (yas (Sub.uni _) ⟨(yew e he),(yhK e he),(yfa e he),(ypX e he),(yDy e he),(yDK e he),(ywA e he),(yhl e he),(yDz e he),trivial⟩ trivial he.ok) ymP.flat (yan (by kernel_rfl))
def ylm (a0:yaf) (a1:yaj) (p0 p1 p2 p3:Int) (K:Int→Int→Int→Prop):Prop :=
 (a0 p0 p1 p2 p3 (fun a =>
 (cbr (a !=(0:Int))
 (K (0:Int) (0:Int) a)
 (a1 p0 p1 (IntKind.i64.wrap ((0:Int)-p2)) p3 (fun b c d =>
 (K b c d))))))
def ybC:yaj:=ylm ycG ybv
def yzM (e:Es) (a0:yaf) (a1:yaj):SE:=sE (E e) [(ycF,yiw.pw a0),(yet,ydW.pw a1)] lp0
theorem yzN (e:Es) (a0 a1):EqW (yzM e a0 a1) 6 yBV ydW (ylm a0 a1):=fun _ _=>by kernel_rfl
theorem yhM (e:Es) (he:EG e):OkF (E e) (ydW.pw ybC) yfz:=okU he (yzN e _ _) (yas (Sub.uni _) ⟨(yew e he),(yf1 e he),trivial⟩ trivial he.ok) ymP.flat (yan (by kernel_rfl))
def yln (a0:yaf) (a1:yae) (a2:yav) (a3:ybR) (a4:ycR) (p0 p1 p2 p3:Int) (K:Int→Int→Int→Prop):Prop :=
 (a0 p0 p1 p2 p3 (fun d =>
 (cbr (d !=(0:Int))
 (K (0:Int) (0:Int) d)
 (a1 p0 (fun e =>
 (a1 p2 (fun f =>
 (a2 e (IntKind.u64.wrap p3) (fun a =>
 (a2 f (IntKind.u64.wrap p1) (fun b =>
 (asr (!(decide (a=(0:Int))))
 (asr (!(decide (b=(0:Int))))
 (a3 (IntKind.u64.wrap (Int.tdiv e a)) (IntKind.u64.wrap (Int.tdiv f b)) (fun h c =>
 (asr (!(decide (b=(0:Int))))
 (asr (!(decide (a=(0:Int))))
 (a3 (IntKind.u64.wrap (Int.tdiv (IntKind.u64.wrap p1) b)) (IntKind.u64.wrap (Int.tdiv (IntKind.u64.wrap p3) a)) (fun i g =>
 (cbr (decide ((IntKind.u64.wrap (h+i))>(0:Int)))
 (K (0:Int) (0:Int) (16:Int))
 (cbr (decide (c>(0:Int)))
 (a4 ((decide (p0<(0:Int))) !=(decide (p2<(0:Int)))) c g (fun j k l =>
 (K j k l)))
 (a4 false c g (fun m n o =>
 (K m n o))))))))))))))))))))))))
def yaI:yaj:=yln ycG yc6 yci yeP yca
def yzO (e:Es) (a0:yaf) (a1:yae) (a2:yav) (a3:ybR) (a4:ycR):SE:=sE (E e) [(ycF,yiw.pw a0),(yc3,yoN.pw a1),(yeq,yq6.pw a2),(yh1,yDA.pw a3),(ydx,yuy.pw a4)] lp0
theorem yzP (e:Es) (a0 a1 a2 a3 a4):EqW (yzO e a0 a1 a2 a3 a4) 6 yBW ydW (yln a0 a1 a2 a3 a4):=fun _ _=>by kernel_rfl
theorem yeR (e:Es) (he:EG e):OkF (E e) (ydW.pw yaI) ydI:=okU he (yzP e _ _ _ _ _) (yas (Sub.uni _) ⟨(yew e he),(yfa e he),(yhK e he),(ypX e he),(yhl e he),trivial⟩ trivial he.ok) ymP.flat (yan (by kernel_rfl))
def ylo (a0:yaf) (a1:yaj) (p0 p1 p2 p3:Int) (K:Int→Int→Int→Prop):Prop :=
 (a0 p0 p1 p2 p3 (fun a =>
 (cbr (a !=(0:Int))
 (K (0:Int) (0:Int) a)
 (cbr (p2 ==(0:Int))
 (K (0:Int) (0:Int) (18:Int))
 (cbr (decide (p2<(0:Int)))
 (a1 p0 p1 (IntKind.i64.wrap ((0:Int)-p3)) (IntKind.i64.wrap ((0:Int)-p2)) (fun b c d =>
 (K b c d)))
 (a1 p0 p1 p3 p2 (fun e f g =>
 (K e f g))))))))
def ycn:yaj:=ylo ycG yaI
def yzQ (e:Es) (a0:yaf) (a1:yaj):SE:=sE (E e) [(ycF,yiw.pw a0),(ydI,ydW.pw a1)] lp0
theorem yzR (e:Es) (a0 a1):EqW (yzQ e a0 a1) 6 yBY ydW (ylo a0 a1):=fun _ _=>by kernel_rfl
theorem ylp (e:Es) (he:EG e):OkF (E e) (ydW.pw ycn) yhb:=okU he (yzR e _ _) (yas (Sub.uni _) ⟨(yew e he),(yeR e he),trivial⟩ trivial he.ok) ymP.flat (yan (by kernel_rfl))
def yB7 (a0:yae) (p0:Int) (K:Int→Prop):Prop :=
 (a0 p0 (fun a =>
 (K a)))
def yc8:yae:=yB7 ygF
def yGG (e:Es) (a0:yae):SE:=sE (E e) [(ykq,ypZ.pw a0)] lp0
theorem yGH (e:Es) (a0):EqW (yGG e a0) 6 yHO ypZ (yB7 a0):=fun _ _=>by kernel_rfl
theorem yrc (e:Es) (he:EG e):OkF (E e) (ypZ.pw yc8) yk7:=okU he (yGH e _) (yas (Sub.uni _) ⟨(yp0 e he),trivial⟩ trivial he.ok) ymP.flat (yan (by kernel_rfl))
def ygH (p0:Int) (K:Bool→Prop):Prop :=
 (K (p0 != p0))
def yhm:yby:=ygH
def ys0 (e:Es):SE:=sE (E e) [] lp0
theorem ys1 (e:Es):EqW (ys0 e) 6 yuw yix ygH:=fun _ _=>by kernel_rfl
theorem ys2 (e:Es) (he:EG e):OkF (E e) (yix.pw yhm) yfh:=okU he (ys1 e) (yas (Sub.uni _) trivial trivial he.ok) ymP.flat (yan (by kernel_rfl))
abbrev yak:Type:=Int→Int→(Bool→Prop)→Prop
def yhn (a0:yby) (p0 p1:Int) (K:Bool→Prop):Prop :=
 (jn (fun (a:Bool→Prop) =>
 (a0 p0 (fun b =>
 (cbr b
 (a0 p1 (fun c =>
 (cbr (!c)
 (a true)
 (a (decide (p0<p1))))))
 (a (decide (p0<p1)))))))
 (fun d=>(K d)))
def yao:yak:=yhn yhm
def yuB:Sg:=⟨pt6,Bool→Prop,fun K=>(fun r0=>K (.bool r0))⟩
def yuC (e:Es) (a0:yby):SE:=sE (E e) [(yfh,yix.pw a0)] lp0
theorem yuD (e:Es) (a0):EqW (yuC e a0) 6 ywm yuB (yhn a0):=fun _ _=>by kernel_rfl
theorem yho (e:Es) (he:EG e):OkF (E e) (yuB.pw yao) ycQ:=okU he (yuD e _) (yas (Sub.uni _) ⟨(ys2 e he),trivial⟩ trivial he.ok) ymP.flat (yan (by kernel_rfl))
set_option linter.unusedVariables false
theorem yuE (p0:Int) (p1:Int) (r0:Int) (h:∀ K:Int→Prop,K r0→ybu p0 p1 K) (K:Int→Prop):ybu p0 p1 K=K r0 :=
 propext ⟨fun k=>detC (yev [] ybm) (az:=[(.agg [(.int .i64 p0),(.int .i64 p1)])]) (x:=(.int .i64 r0)) (fun K' k'=>h (fun r0=>K' (.int .i64 r0)) k') (K:=fun x=>match x with | (.int .i64 r0)=>K r0 | _=>False) k,h K⟩
theorem yoU (p0:Int) (p1:Int) (p2:Int) (p3:Int) (r0:Int) (r1:Int) (h:∀ K:Int→Int→Prop,K r0 r1→yaS p0 p1 p2 p3 K) (K:Int→Int→Prop):yaS p0 p1 p2 p3 K=K r0 r1 :=
 propext ⟨fun k=>detC (yeQ [] ybm) (az:=[(.agg [(.int .i64 p0),(.int .i64 p1)]),(.agg [(.int .i64 p2),(.int .i64 p3)])]) (x:=(.tup [(.int .i64 r0),(.int .i64 r1)])) (fun K' k'=>h (fun r0 r1=>K' (.tup [(.int .i64 r0),(.int .i64 r1)])) k') (K:=fun x=>match x with | (.tup [(.int .i64 r0),(.int .i64 r1)])=>K r0 r1 | _=>False) k,h K⟩
theorem ywB (p0:Int) (p1:Int) (r0:Int) (r1:Int) (r2:Int) (h:∀ K:Int→Int→Int→Prop,K r0 r1 r2→yaN p0 p1 K) (K:Int→Int→Int→Prop):yaN p0 p1 K=K r0 r1 r2 :=
 propext ⟨fun k=>detC (ygZ [] ybm) (az:=[(.int .i64 p0),(.int .i64 p1)]) (x:=(.tup [(.agg [(.int .i64 r0),(.int .i64 r1)]),(.int .i64 r2)])) (fun K' k'=>h (fun r0 r1 r2=>K' (.tup [(.agg [(.int .i64 r0),(.int .i64 r1)]),(.int .i64 r2)])) k') (K:=fun x=>match x with | (.tup [(.agg [(.int .i64 r0),(.int .i64 r1)]),(.int .i64 r2)])=>K r0 r1 r2 | _=>False) k,h K⟩
theorem yB8 (p0:Int) (r0:Int) (h:∀ K:Int→Prop,K r0→ygF p0 K) (K:Int→Prop):ygF p0 K=K r0 :=
 propext ⟨fun k=>detC (yp0 [] ybm) (az:=[(.int .u64 p0)]) (x:=(.int .i64 r0)) (fun K' k'=>h (fun r0=>K' (.int .i64 r0)) k') (K:=fun x=>match x with | (.int .i64 r0)=>K r0 | _=>False) k,h K⟩
theorem yxP (p0:Int) (p1:Int) (p2:Int) (p3:Int) (r0:Int) (r1:Int) (r2:Int) (h:∀ K:Int→Int→Int→Prop,K r0 r1 r2→ybv p0 p1 p2 p3 K) (K:Int→Int→Int→Prop):ybv p0 p1 p2 p3 K=K r0 r1 r2 :=
 propext ⟨fun k=>detC (yf1 [] ybm) (az:=[(.agg [(.int .i64 p0),(.int .i64 p1)]),(.agg [(.int .i64 p2),(.int .i64 p3)])]) (x:=(.tup [(.agg [(.int .i64 r0),(.int .i64 r1)]),(.int .i64 r2)])) (fun K' k'=>h (fun r0 r1 r2=>K' (.tup [(.agg [(.int .i64 r0),(.int .i64 r1)]),(.int .i64 r2)])) k') (K:=fun x=>match x with | (.tup [(.agg [(.int .i64 r0),(.int .i64 r1)]),(.int .i64 r2)])=>K r0 r1 r2 | _=>False) k,h K⟩
theorem yxQ (p0:Int) (p1:Int) (p2:Int) (p3:Int) (r0:Int) (r1:Int) (r2:Int) (h:∀ K:Int→Int→Int→Prop,K r0 r1 r2→ybC p0 p1 p2 p3 K) (K:Int→Int→Int→Prop):ybC p0 p1 p2 p3 K=K r0 r1 r2 :=
 propext ⟨fun k=>detC (yhM [] ybm) (az:=[(.agg [(.int .i64 p0),(.int .i64 p1)]),(.agg [(.int .i64 p2),(.int .i64 p3)])]) (x:=(.tup [(.agg [(.int .i64 r0),(.int .i64 r1)]),(.int .i64 r2)])) (fun K' k'=>h (fun r0 r1 r2=>K' (.tup [(.agg [(.int .i64 r0),(.int .i64 r1)]),(.int .i64 r2)])) k') (K:=fun x=>match x with | (.tup [(.agg [(.int .i64 r0),(.int .i64 r1)]),(.int .i64 r2)])=>K r0 r1 r2 | _=>False) k,h K⟩
theorem yxR (p0:Int) (p1:Int) (p2:Int) (p3:Int) (r0:Int) (r1:Int) (r2:Int) (h:∀ K:Int→Int→Int→Prop,K r0 r1 r2→yaI p0 p1 p2 p3 K) (K:Int→Int→Int→Prop):yaI p0 p1 p2 p3 K=K r0 r1 r2 :=
 propext ⟨fun k=>detC (yeR [] ybm) (az:=[(.agg [(.int .i64 p0),(.int .i64 p1)]),(.agg [(.int .i64 p2),(.int .i64 p3)])]) (x:=(.tup [(.agg [(.int .i64 r0),(.int .i64 r1)]),(.int .i64 r2)])) (fun K' k'=>h (fun r0 r1 r2=>K' (.tup [(.agg [(.int .i64 r0),(.int .i64 r1)]),(.int .i64 r2)])) k') (K:=fun x=>match x with | (.tup [(.agg [(.int .i64 r0),(.int .i64 r1)]),(.int .i64 r2)])=>K r0 r1 r2 | _=>False) k,h K⟩
theorem yxS (p0:Int) (p1:Int) (p2:Int) (p3:Int) (r0:Int) (r1:Int) (r2:Int) (h:∀ K:Int→Int→Int→Prop,K r0 r1 r2→ycn p0 p1 p2 p3 K) (K:Int→Int→Int→Prop):ycn p0 p1 p2 p3 K=K r0 r1 r2 :=
 propext ⟨fun k=>detC (ylp [] ybm) (az:=[(.agg [(.int .i64 p0),(.int .i64 p1)]),(.agg [(.int .i64 p2),(.int .i64 p3)])]) (x:=(.tup [(.agg [(.int .i64 r0),(.int .i64 r1)]),(.int .i64 r2)])) (fun K' k'=>h (fun r0 r1 r2=>K' (.tup [(.agg [(.int .i64 r0),(.int .i64 r1)]),(.int .i64 r2)])) k') (K:=fun x=>match x with | (.tup [(.agg [(.int .i64 r0),(.int .i64 r1)]),(.int .i64 r2)])=>K r0 r1 r2 | _=>False) k,h K⟩
def ycf (x0:Ls→Int→Int→Bool→Prop):Nat→Ls→Int→Int→Prop
 | 0,_,_,_=>False
 | n+1,l0,i1,i2 =>
 (cbr (decide (i2<(((List.length l0):Nat):Int)))
 (asr (decide ((0:Int)≤i2))
 (asr (decide (i2<(((List.length l0):Nat):Int)))
 (asr (conf zI (List.getD l0 (i2.toNat) .nils))
 (ycf x0 n l0 (if (yaa (List.getD l0 (i2.toNat) .nils))<i1 then (yaa (List.getD l0 (i2.toNat) .nils)) else i1) (IntKind.i64.wrap (i2+(1:Int)))))))
 (x0 l0 i1 i2 false))
def ygI (p0:Ls) (K:Int→Prop):Prop :=
 (cbr (decide ((((List.length p0):Nat):Int)<(1:Int)))
 False
 (asr (decide ((0:Int)<(((List.length p0):Nat):Int)))
 (asr (conf zI (List.getD p0 0 .nils))
 (∃ n:Nat,ycf
 (fun b a c d=>(K a))
 n p0 (yaa (List.getD p0 0 .nils)) (1:Int)))))
def ycV:yaz:=ygI
def yot (Q:Qx):Ls→Int→Int→Bool→Prop:=(fun l0 i1 i2 b3=>Q (.exit 0) [(0,.v (.data l0)),(3,.v (.int .i64 i1)),(4,.v (.int .i64 i2)),(15,.v (.bool b3))] [])
def pt12:Pat Sta:=pS hN (fV 0 vD (fV 3 pt0 (fV 4 pt0 fN))) fN
def yiy (Q:Qx):List St:=[⟨pt12,ycf (yot Q)⟩]
def ykz:LP:=lpS [(10434000,yiy)]
def ygJ (e:Es):SE:=sE (E e) [] (ykz)
theorem yjn (e:Es) (he:EG e):SEOk (Uni (E e)) (ygJ e):=yas (Sub.uni _) trivial trivial he.ok
theorem ym4 (e:Es):ybZ (ygJ e) 5 a ypp false (yiy):=fun _=>⟨fun _=>by kernel_rfl,fun _ _=>by kernel_rfl,trivial⟩
theorem ym5 (e:Es) (he:EG e):LpT (Uni (E e)) (ykz) [] 10434000 (.loop 10434000 ypp):=fun _ _ _=>yqU.st (Sub.uni _) (yaF (yjn e he) 5) (YOk.no _ _) (yan (by kernel_rfl)) (ym4 e _)
theorem ys3 (e:Es):EqW (ygJ e) 6 ymg ydm ygI:=fun _ _=>by kernel_rfl
theorem ys4 (e:Es) (he:EG e):OkF (E e) (ydm.pw ycV) yff:=okU he (ys3 e) (yjn e he) ymP.flat (ya5 (l:=[(10434000,.loop 10434000 ypp)]) ⟨ym5 e he,trivial⟩ (by kernel_rfl))
def ycg (x0:Ls→Int→Int→Bool→Prop):Nat→Ls→Int→Int→Prop
 | 0,_,_,_=>False
 | n+1,l0,i1,i2 =>
 (cbr (decide (i2<(((List.length l0):Nat):Int)))
 (asr (decide ((0:Int)≤i2))
 (asr (decide (i2<(((List.length l0):Nat):Int)))
 (asr (conf zI (List.getD l0 (i2.toNat) .nils))
 (ycg x0 n l0 (if (yaa (List.getD l0 (i2.toNat) .nils))>i1 then (yaa (List.getD l0 (i2.toNat) .nils)) else i1) (IntKind.i64.wrap (i2+(1:Int)))))))
 (x0 l0 i1 i2 false))
def ygK (p0:Ls) (K:Int→Prop):Prop :=
 (cbr (decide ((((List.length p0):Nat):Int)<(1:Int)))
 False
 (asr (decide ((0:Int)<(((List.length p0):Nat):Int)))
 (asr (conf zI (List.getD p0 0 .nils))
 (∃ n:Nat,ycg
 (fun b a c d=>(K a))
 n p0 (yaa (List.getD p0 0 .nils)) (1:Int)))))
def ycW:yaz:=ygK
def you (Q:Qx):Ls→Int→Int→Bool→Prop:=(fun l0 i1 i2 b3=>Q (.exit 0) [(0,.v (.data l0)),(3,.v (.int .i64 i1)),(4,.v (.int .i64 i2)),(15,.v (.bool b3))] [])
def yiz (Q:Qx):List St:=[⟨pt12,ycg (you Q)⟩]
def ykA:LP:=lpS [(64079100,yiz)]
def ygL (e:Es):SE:=sE (E e) [] (ykA)
theorem yjo (e:Es) (he:EG e):SEOk (Uni (E e)) (ygL e):=yas (Sub.uni _) trivial trivial he.ok
theorem ym6 (e:Es):ybZ (ygL e) 5 a ypq false (yiz):=fun _=>⟨fun _=>by kernel_rfl,fun _ _=>by kernel_rfl,trivial⟩
theorem ym7 (e:Es) (he:EG e):LpT (Uni (E e)) (ykA) [] 64079100 (.loop 64079100 ypq):=fun _ _ _=>yqU.st (Sub.uni _) (yaF (yjo e he) 5) (YOk.no _ _) (yan (by kernel_rfl)) (ym6 e _)
theorem ys5 (e:Es):EqW (ygL e) 6 ymh ydm ygK:=fun _ _=>by kernel_rfl
theorem ys6 (e:Es) (he:EG e):OkF (E e) (ydm.pw ycW) yfg:=okU he (ys5 e) (yjo e he) ymP.flat (ya5 (l:=[(64079100,.loop 64079100 ypq)]) ⟨ym7 e he,trivial⟩ (by kernel_rfl))
abbrev yaw:Type:=Int→Ls→Ls→(Int→Prop)→Prop
def ycM (a0:yaz) (a1:yaz) (x0:Int→Prop) (x1:Int→Ls→Ls→Int→Int→Bool→Prop):Nat→Int→Ls→Ls→Int→Int→Prop
 | 0,_,_,_,_,_=>False
 | n+1,i0,l1,l2,i3,i4 =>
 (cbr (decide (i4<i3))
 (asr (decide ((0:Int)≤i4))
 (asr (decide (i4<(((List.length l1):Nat):Int)))
 (asr (conf zI (List.getD l1 (i4.toNat) .nils))
 (asr (decide ((0:Int)≤(IntKind.i64.wrap (i4+(1:Int)))))
 (asr (decide ((IntKind.i64.wrap (i4+(1:Int)))<(((List.length l1):Nat):Int)))
 (asr (conf zI (List.getD l1 ((IntKind.i64.wrap (i4+(1:Int))).toNat) .nils))
 (cbr (decide ((yaa (List.getD l1 (i4.toNat) .nils))≥(yaa (List.getD l1 ((IntKind.i64.wrap (i4+(1:Int))).toNat) .nils))))
 (x0 (8:Int))
 (ycM a0 a1 x0 x1 n i0 l1 l2 i3 (IntKind.i64.wrap (i4+(1:Int)))))))))))
 (x1 i0 l1 l2 i3 i4 false))
def yjU (a0:yaz) (a1:yaz) (p0:Int) (p1 p2:Ls) (K:Int→Prop):Prop :=
 (cbr (decide (p0>(1000:Int)))
 (K (4:Int))
 (cbr (decide ((((List.length p1):Nat):Int)>(40:Int)))
 (K (4:Int))
 (cbr (decide (p0<(1:Int)))
 (K (8:Int))
 (cbr (decide ((((List.length p1):Nat):Int)<(2:Int)))
 (K (8:Int))
 (cbr ((((List.length p2):Nat):Int) !=(IntKind.i64.wrap ((((List.length p1):Nat):Int)-(1:Int))))
 (K (8:Int))
 (asr (decide ((0:Int)<(((List.length p1):Nat):Int)))
 (asr (conf zI (List.getD p1 0 .nils))
 (cbr ((yaa (List.getD p1 0 .nils)) !=(0:Int))
 (K (8:Int))
 (asr (decide ((0:Int)≤(IntKind.i64.wrap ((((List.length p1):Nat):Int)-(1:Int)))))
 (asr (decide ((IntKind.i64.wrap ((((List.length p1):Nat):Int)-(1:Int)))<(((List.length p1):Nat):Int)))
 (asr (conf zI (List.getD p1 ((IntKind.i64.wrap ((((List.length p1):Nat):Int)-(1:Int))).toNat) .nils))
 (cbr ((yaa (List.getD p1 ((IntKind.i64.wrap ((((List.length p1):Nat):Int)-(1:Int))).toNat) .nils)) != p0)
 (K (8:Int))
 (∃ n:Nat,ycM a0 a1
 (fun b=>(K b))
 (fun f g a h i j=>(a0 a (fun c =>
 (cbr (decide (c<(0:Int)))
 (K (8:Int))
 (a1 a (fun d =>
 (cbr (decide (d>(12:Int)))
 (K (8:Int))
 (a1 a (fun e =>
 (cbr (e ==(0:Int))
 (K (8:Int))
 (K (0:Int))))))))))))
 n p0 p1 p2 (IntKind.i64.wrap ((((List.length p1):Nat):Int)-(1:Int))) (0:Int))))))))))))))
def yaE:yaw:=yjU ycV ycW
def pt13:VPt:=vA (lC pt0 (lC vD pt9))
def pt14:LPt:=lC pt13 lN
def yoV:Sg:=⟨pt14,Int→Prop,fun K=>(fun r0=>K (.int .i64 r0))⟩
def ys7 (Q:Qx):Int→Prop:=(fun i0=>Q .ret [(2,.v (.int .i64 i0))] [])
def ys8 (Q:Qx):Int→Ls→Ls→Int→Int→Bool→Prop:=(fun i0 l1 l2 i3 i4 b5=>Q (.exit 0) [(1,.box (.agg [(.int .i64 i0),(.data l1),(.data l2)])),(49,.v (.int .i64 i3)),(50,.v (.int .i64 i4)),(51,.v (.bool b5))] [])
def ymj (a0:yaz) (a1:yaz) (Q:Qx):List St:=[⟨(pS hN (fX 1 pt13 (fV 49 pt0 (fV 50 pt0 fN))) fN),ycM a0 a1 (ys7 Q) (ys8 Q)⟩]
def yoW (a0:yaz) (a1:yaz):LP:=lpS [(87419700,ymj a0 a1)]
def yjV (e:Es) (a0:yaz) (a1:yaz):SE:=sE (E e) [(yff,ydm.pw a0),(yfg,ydm.pw a1)] (yoW a0 a1)
theorem ym8 (e:Es) (he:EG e):SEOk (Uni (E e)) (yjV e ycV ycW):=yas (Sub.uni _) ⟨(ys4 e he),(ys6 e he),trivial⟩ trivial he.ok
theorem yrd (e:Es) (a0 a1):ybZ (yjV e a0 a1) 5 a ypr false (ymj a0 a1):=fun _=>⟨fun _=>by kernel_rfl,fun _ _=>by kernel_rfl,trivial⟩
theorem yre (e:Es) (he:EG e):LpT (Uni (E e)) (yoW ycV ycW) [] 87419700 (.loop 87419700 ypr):=fun _ _ _=>yqU.st (Sub.uni _) (yaF (ym8 e he) 5) (YOk.no _ _) (yan (by kernel_rfl)) (yrd e _ _ _)
theorem yxT (e:Es) (a0 a1):EqW (yjV e a0 a1) 6 yqZ yoV (yjU a0 a1):=fun _ _=>by kernel_rfl
theorem yd7 (e:Es) (he:EG e):OkF (E e) (yoV.pw yaE) yc1:=okU he (yxT e _ _) (ym8 e he) ymP.flat (ya5 (l:=[(87419700,.loop 87419700 ypr)]) ⟨yre e he,trivial⟩ (by kernel_rfl))
abbrev ylq:Type:=Int→Ls→Ls→(Int→Int→Prop)→Prop
def ycN (a0:yaw) (x0:Int→Ls→Ls→Int→Ls→Int→Int→Bool→Prop):Nat→Int→Ls→Ls→Int→Ls→Int→Int→Prop
 | 0,_,_,_,_,_,_,_=>False
 | n+1,i0,l1,l2,i3,l4,i5,i6 =>
 (cbr (decide (i6<i5))
 (asr (decide ((0:Int)≤i6))
 (asr (decide (i6<(((List.length l4):Nat):Int)))
 (asr (conf zI (List.getD l4 (i6.toNat) .nils))
 (asr (decide ((0:Int)≤(IntKind.i64.wrap (i6+(1:Int)))))
 (asr (decide ((IntKind.i64.wrap (i6+(1:Int)))<(((List.length l1):Nat):Int)))
 (asr (conf zI (List.getD l1 ((IntKind.i64.wrap (i6+(1:Int))).toNat) .nils))
 (asr (decide ((0:Int)≤i6))
 (asr (decide (i6<(((List.length l1):Nat):Int)))
 (asr (conf zI (List.getD l1 (i6.toNat) .nils))
 (ycN a0 x0 n i0 l1 l2 (IntKind.i64.wrap (i3+(IntKind.i64.wrap ((yaa (List.getD l4 (i6.toNat) .nils))*(IntKind.i64.wrap ((yaa (List.getD l1 ((IntKind.i64.wrap (i6+(1:Int))).toNat) .nils))-(yaa (List.getD l1 (i6.toNat) .nils)))))))) l4 i5 (IntKind.i64.wrap (i6+(1:Int)))))))))))))
 (x0 i0 l1 l2 i3 l4 i5 i6 false))
def yg1 (a0:yaw) (p0:Int) (p1 p2:Ls) (K:Int→Int→Prop):Prop :=
 (a0 p0 p1 p2 (fun a =>
 (cbr (a !=(0:Int))
 (K (0:Int) a)
 (∃ n:Nat,ycN a0
 (fun c d e b f g h i=>(K b (0:Int)))
 n p0 p1 p2 (0:Int) p2 (((List.length p2):Nat):Int) (0:Int)))))
def ydX:ylq:=yg1 yaE
def yxU:Sg:=⟨pt14,Int→Int→Prop,fun K=>(fun r0 r1=>K (.tup [(.int .i64 r0),(.int .i64 r1)]))⟩
def ys9 (Q:Qx):Int→Ls→Ls→Int→Ls→Int→Int→Bool→Prop:=(fun i0 l1 l2 i3 l4 i5 i6 b7=>Q (.exit 0) [(1,.box (.agg [(.int .i64 i0),(.data l1),(.data l2)])),(5,.v (.int .i64 i3)),(14,.v (.data l4)),(15,.v (.int .i64 i5)),(16,.v (.int .i64 i6)),(17,.v (.bool b7))] [])
def pt15:Pat Frm:=fV 14 vD (fV 15 pt0 (fV 16 pt0 fN))
def ymk (a0:yaw) (Q:Qx):List St:=[⟨(pS hN (fX 1 pt13 (fV 5 pt0 pt15)) fN),ycN a0 (ys9 Q)⟩]
def yoX (a0:yaw):LP:=lpS [(45203600,ymk a0)]
def yjW (e:Es) (a0:yaw):SE:=sE (E e) [(yc1,yoV.pw a0)] (yoX a0)
theorem ym9 (e:Es) (he:EG e):SEOk (Uni (E e)) (yjW e yaE):=yas (Sub.uni _) ⟨(yd7 e he),trivial⟩ trivial he.ok
theorem yrf (e:Es) (a0):ybZ (yjW e a0) 5 a ypz false (ymk a0):=fun _=>⟨fun _=>by kernel_rfl,fun _ _=>by kernel_rfl,trivial⟩
theorem yrg (e:Es) (he:EG e):LpT (Uni (E e)) (yoX yaE) [] 45203600 (.loop 45203600 ypz):=fun _ _ _=>yqU.st (Sub.uni _) (yaF (ym9 e he) 5) (YOk.no _ _) (yan (by kernel_rfl)) (yrf e _ _)
theorem yxV (e:Es) (a0):EqW (yjW e a0) 6 yq3 yxU (yg1 a0):=fun _ _=>by kernel_rfl
theorem yoY (e:Es) (he:EG e):OkF (E e) (yxU.pw ydX) yhG:=okU he (yxV e _) (ym9 e he) ymP.flat (ya5 (l:=[(45203600,.loop 45203600 ypz)]) ⟨yrg e he,trivial⟩ (by kernel_rfl))
abbrev yad:Type:=Int→(Int→Int→Prop)→Prop
def yoZ (p0:Int) (K:Int→Int→Prop):Prop :=
 (K p0 (1:Int))
def ybL:yad:=yoZ
def yjX:Sg:=⟨pt1,Int→Int→Prop,fun K=>(fun r0 r1=>K (.agg [(.int .i64 r0),(.int .i64 r1)]))⟩
def yxW (e:Es):SE:=sE (E e) [] lp0
theorem yxX (e:Es):EqW (yxW e) 6 yzC yjX yoZ:=fun _ _=>by kernel_rfl
theorem yg2 (e:Es) (he:EG e):OkF (E e) (yjX.pw ybL) ydR:=okU he (yxX e) (yas (Sub.uni _) trivial trivial he.ok) ymP.flat (yan (by kernel_rfl))
abbrev yay:Type:=Int→Int→Int→Int→(Bool→Prop)→Prop
def ylr (a0:yai) (p0 p1 p2 p3:Int) (K:Bool→Prop):Prop :=
 (a0 p0 p1 p2 p3 (fun a b =>
 (K (decide (a<(0:Int))))))
def ybS:yay:=ylr yaS
def yrh:Sg:=⟨pt11,Bool→Prop,fun K=>(fun r0=>K (.bool r0))⟩
def yzS (e:Es) (a0:yai):SE:=sE (E e) [(ydH,yzH.pw a0)] lp0
theorem yzT (e:Es) (a0):EqW (yzS e a0) 6 yBT yrh (ylr a0):=fun _ _=>by kernel_rfl
theorem yhN (e:Es) (he:EG e):OkF (E e) (yrh.pw ybS) yer:=okU he (yzT e _) (yas (Sub.uni _) ⟨(yeQ e he),trivial⟩ trivial he.ok) ymP.flat (yan (by kernel_rfl))
abbrev ybM:Type:=Int→Ls→Ls→Int→Int→(Bool→Prop)→Prop
def yjY (a0:yav) (a1:yad) (a2:yay) (p0:Int) (p1 p2:Ls) (p3 p4:Int) (K:Bool→Prop):Prop :=
 (a0 p3 p4 (fun a =>
 (cbr (a ==(0:Int))
 (cbr (decide (p3≥(0:Int)))
 (a1 p0 (fun b c =>
 (a2 b c p3 p4 (fun d =>
 (K (!d))))))
 (K false))
 (K false))))
def ybN:ybM:=yjY ybu ybL ybS
def yxY:Sg:=⟨(lC pt13 pt8),Bool→Prop,fun K=>(fun r0=>K (.bool r0))⟩
def yxZ (e:Es) (a0:yav) (a1:yad) (a2:yay):SE:=sE (E e) [(yde,ymX.pw a0),(ydR,yjX.pw a1),(yer,yrh.pw a2)] lp0
theorem yx0 (e:Es) (a0 a1 a2):EqW (yxZ e a0 a1 a2) 6 yzD yxY (yjY a0 a1 a2):=fun _ _=>by kernel_rfl
theorem yjZ (e:Es) (he:EG e):OkF (E e) (yxY.pw ybN) yeM:=okU he (yx0 e _ _ _) (yas (Sub.uni _) ⟨(yev e he),(yg2 e he),(yhN e he),trivial⟩ trivial he.ok) ymP.flat (yan (by kernel_rfl))
abbrev ybz:Type:=Int→Ls→Ls→Int→Int→Int→Int→(Int→Int→Int→Prop)→Prop
def yaP (a0:yaw) (a1:ybM) (a2:yay) (a3:yad) (a4:yaj) (a5:yaj) (a6:yaj) (x0:Int→Int→Int→Prop) (x1:Int→Ls→Ls→Int→Int→Int→Int→Int→Int→Int→Int→Ls→Int→Int→Bool→Prop):Nat→Int→Ls→Ls→Int→Int→Int→Int→Int→Int→Int→Int→Ls→Int→Int→Prop
 | 0,_,_,_,_,_,_,_,_,_,_,_,_,_,_=>False
 | n+1,i0,l1,l2,i3,i4,i5,i6,i7,i8,i9,i10,l11,i12,i13 =>
 (cbr (decide (i13<i12))
 (asr (decide ((0:Int)≤i13))
 (asr (decide (i13<(((List.length l11):Nat):Int)))
 (asr (conf zI (List.getD l11 (i13.toNat) .nils))
 (asr (decide ((0:Int)≤(IntKind.i64.wrap (i13+(1:Int)))))
 (asr (decide ((IntKind.i64.wrap (i13+(1:Int)))<(((List.length l1):Nat):Int)))
 (asr (conf zI (List.getD l1 ((IntKind.i64.wrap (i13+(1:Int))).toNat) .nils))
 (a3 (yaa (List.getD l1 ((IntKind.i64.wrap (i13+(1:Int))).toNat) .nils)) (fun a b =>
 (a2 i3 i4 a b (fun i =>
 (cbr i
 (cbr ((yaa (List.getD l11 (i13.toNat) .nils)) ==(0:Int))
 (a2 i9 i10 i3 i4 (fun j =>
 (cbr j
 (yaP a0 a1 a2 a3 a4 a5 a6 x0 x1 n i0 l1 l2 i3 i4 i5 i6 i7 i8 i3 i4 l11 i12 (IntKind.i64.wrap (i13+(1:Int))))
 (yaP a0 a1 a2 a3 a4 a5 a6 x0 x1 n i0 l1 l2 i3 i4 i5 i6 i7 i8 i9 i10 l11 i12 (IntKind.i64.wrap (i13+(1:Int)))))))
 (a2 i9 i10 i3 i4 (fun k =>
 (cbr (!k)
 (a2 i9 i10 i3 i4 (fun l =>
 (cbr l
 (yaP a0 a1 a2 a3 a4 a5 a6 x0 x1 n i0 l1 l2 i3 i4 i5 i6 i7 i8 i3 i4 l11 i12 (IntKind.i64.wrap (i13+(1:Int))))
 (yaP a0 a1 a2 a3 a4 a5 a6 x0 x1 n i0 l1 l2 i3 i4 i5 i6 i7 i8 i9 i10 l11 i12 (IntKind.i64.wrap (i13+(1:Int)))))))
 (a4 i3 i4 i9 i10 (fun m o c =>
 (cbr (c !=(0:Int))
 (x0 (0:Int) (0:Int) c)
 (a3 (yaa (List.getD l11 (i13.toNat) .nils)) (fun p q =>
 (a5 m o p q (fun r s d =>
 (cbr (d !=(0:Int))
 (x0 (0:Int) (0:Int) d)
 (a6 i7 i8 r s (fun t u e =>
 (cbr (e !=(0:Int))
 (x0 (0:Int) (0:Int) e)
 (yaP a0 a1 a2 a3 a4 a5 a6 x0 x1 n i0 l1 l2 i3 i4 i5 i6 t u i3 i4 l11 i12 (IntKind.i64.wrap (i13+(1:Int)))))))))))))))))))
 (cbr ((yaa (List.getD l11 (i13.toNat) .nils)) ==(0:Int))
 (a2 i9 i10 a b (fun v =>
 (cbr v
 (yaP a0 a1 a2 a3 a4 a5 a6 x0 x1 n i0 l1 l2 i3 i4 i5 i6 i7 i8 a b l11 i12 (IntKind.i64.wrap (i13+(1:Int))))
 (yaP a0 a1 a2 a3 a4 a5 a6 x0 x1 n i0 l1 l2 i3 i4 i5 i6 i7 i8 i9 i10 l11 i12 (IntKind.i64.wrap (i13+(1:Int)))))))
 (a2 i9 i10 a b (fun w =>
 (cbr (!w)
 (a2 i9 i10 a b (fun x =>
 (cbr x
 (yaP a0 a1 a2 a3 a4 a5 a6 x0 x1 n i0 l1 l2 i3 i4 i5 i6 i7 i8 a b l11 i12 (IntKind.i64.wrap (i13+(1:Int))))
 (yaP a0 a1 a2 a3 a4 a5 a6 x0 x1 n i0 l1 l2 i3 i4 i5 i6 i7 i8 i9 i10 l11 i12 (IntKind.i64.wrap (i13+(1:Int)))))))
 (a4 a b i9 i10 (fun y z f =>
 (cbr (f !=(0:Int))
 (x0 (0:Int) (0:Int) f)
 (a3 (yaa (List.getD l11 (i13.toNat) .nils)) (fun A B =>
 (a5 y z A B (fun C D g =>
 (cbr (g !=(0:Int))
 (x0 (0:Int) (0:Int) g)
 (a6 i7 i8 C D (fun E F h =>
 (cbr (h !=(0:Int))
 (x0 (0:Int) (0:Int) h)
 (yaP a0 a1 a2 a3 a4 a5 a6 x0 x1 n i0 l1 l2 i3 i4 i5 i6 E F a b l11 i12 (IntKind.i64.wrap (i13+(1:Int))))))))))))))))))))))))))))))
 (x1 i0 l1 l2 i3 i4 i5 i6 i7 i8 i9 i10 l11 i12 i13 false))
end Go.Pf.Vc
