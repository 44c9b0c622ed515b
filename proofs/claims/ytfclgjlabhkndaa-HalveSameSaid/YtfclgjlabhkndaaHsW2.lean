/- Part 2 of what the statement rests on: a verified evaluator over pure values, the conditions of the program's functions, and their plain laws. -/
import Derived.Test.YtfclgjlabhkndaaHsW1
noncomputable section
namespace Go.Pf
open Go
def WSlice (H : Hp) (esz : Nat) (lo hi mx : Option Int) (x : PV) (K : PV → Prop) : Prop :=
 match x with
 | .nils => asr (decide (lo.getD 0 = 0) && (decide (hi.getD 0 = 0) && decide (mx.getD 0 = 0))) (K .nils)
 | .emp => asr (decide (lo.getD 0 = 0) && (decide (hi.getD 0 = 0) && decide (mx.getD 0 = 0))) (K .emp)
 | .data rows =>
   let h := hi.getD rows.length
   let l := lo.getD 0
   (match mx with
    | none => asr (decide (0 ≤ l)) (asr (decide (l ≤ h)) (asr (decide (h ≤ rows.length)) (asr (decide (l = 0) || headOk esz rows) (K (.data ((rows.take h.toNat).drop l.toNat))))))
    | some m => asr (decide (0 ≤ l)) (asr (decide (l ≤ h)) (asr (decide (h ≤ m)) (asr (decide (m ≤ rows.length)) (asr (decide (l = 0) || headOk esz rows)
        (cbr (decide (l = m)) (K .emp) (K (.data ((rows.take h.toNat).drop l.toNat)))))))))
 | .own id lo0 len ext cap =>
   let h := hi.getD len
   let l := lo.getD 0
   (match H[id]? with
    | some b => asr (b.esz == esz)
      (match mx with
       | none => asr (decide (0 ≤ l)) (asr (decide (l ≤ h)) (asr (decide (h ≤ len) || decide (h ≤ topOf len cap)) (K (.own id (lo0 + l.toNat) (h - l).toNat ext (cap.map fun c => c - l.toNat)))))
       | some m => asr (decide (0 ≤ l)) (asr (decide (l ≤ h)) (asr (decide (h ≤ m)) (asr (decide (m ≤ len) || decide (m ≤ topOf len cap)) (K (.own id (lo0 + l.toNat) (h - l).toNat ext (some (m - l).toNat)))))))
    | none => False)
 | _ => False
def WRow (sh : Sh) (rows : List PV) (i : Nat) (K : PV → Prop) : Prop :=
 match sh with
 | .raw => (match rows[i]? with | some r => K r | none => False)
 | sh => asr (decide (i < rows.length)) (asr (conf sh (rows.getD i .nils)) (K (expl sh (rows.getD i .nils))))
def intsSh : List Cs → Bool
 | [] => true
 | .i _ :: r => intsSh r
 | _ => false
def shL (sh : Sh) (esz sz : Nat) : Sh :=
 match sh with
 | .agg l => bif !(Nat.beq esz sz) && (Nat.beq l.length sz && intsSh l) then .raw else .agg l
 | x => x
def dataSh : List Cs → Bool
 | [] => false
 | .d :: _ => true
 | _ :: r => dataSh r
def shW (sh : Sh) (pu : Bool) : Sh :=
 match sh with
 | .agg l => bif !pu && dataSh l then .raw else .agg l
 | x => x
def WOp (E : Env) (callK : CK) (a : An) (F : Frm) (H : Hp) (o : AOp) (K : OK) : Prop :=
 match o with
 | .pick c x y =>
   (match evV E F c with
    | some (.bool t) => cbr t (match evV E F x with | some p => wv H K p | none => False) (match evV E F y with | some p => wv H K p | none => False)
    | _ => False)
 | .bin op x y =>
   (match evV E F x, evV E F y with
    | some (.int k p), some (.int k' q) => WBin op k k' p q (wv H K)
    | _, _ => False)
 | .load agg sz x =>
   (match ev E F x with
    | some (.v (.ptr id ext i off)) =>
      (match H[id]? with
       | some b => asr (decide (b.rows.length = ext)) (WRow (shW (shL a.sh b.esz sz) b.pu) b.rows i fun row => match partOf agg sz row off with | some p => wv H K p | none => False)
       | none => False)
    | _ => (match opOut E noCall F H (.load agg sz x) with | some ⟨x, bx, H'⟩ => K x bx H' | none => False))
 | .store sz x y =>
   (match ev E F x with
    | some (.v (.ptr id ext i off)) =>
      (match evV E F y with
       | some p =>
         (match H[id]? with
          | some b0 =>
            WPurIf b0.pu H p fun q H' =>
               (match H'[id]? with
                | some b => asr (decide (b.rows.length = ext)) (asr (!b.fz) (WRow (shW a.sh b.pu) b.rows i fun row => match setPart row off sz q with
                    | some row' => K none none (H'.set id { b with rows := b.rows.set i row' })
                    | none => False))
                | none => False)
          | none => False)
       | none => False)
    | _ => (match opOut E noCall F H (.store sz x y) with | some ⟨x, bx, H'⟩ => K x bx H' | none => False))
 | .iad esz x i =>
   (match evV E F x, evInt E F i with
    | some (.data rows), some n =>
      asr (decide (0 ≤ n)) (asr (decide (n < rows.length)) (asr (conf a.sh (rows.getD n.toNat .nils)) (asr (decide ((expl a.sh (rows.getD n.toNat .nils)).cells.length = esz)) (wv H K (.eptr [expl a.sh (rows.getD n.toNat .nils)] 0 0)))))
    | some (.own id lo len ext _), some n =>
      (match H[id]? with
       | some b => asr (decide (0 ≤ n)) (asr (decide (n < len)) (asr (decide (b.esz = esz)) (wv H K (.ptr id ext (lo + n.toNat) 0))))
       | none => False)
    | some (.sub id ext r off m e), some j => asr (Nat.beq e esz) (WSplit m j (fun k => wv H K (.ptr id ext r (off + k * esz))) m)
    | _, _ => False)
 | .iadA n esz x i =>
   (match ev E F x, evInt E F i with
    | some (.bp s o), some j => WSplit n j (fun k => K (some (.bp s (o + k * esz))) none H) n
    | some (.v (.ptr id e r o)), some j => WSplit n j (fun k => wv H K (.ptr id e r (o + k * esz))) n
    | some (.v (.eptr rows r o)), some j => WSplit n j (fun k => wv H K (.eptr rows r (o + k * esz))) n
    | _, _ => False)
 | .idx agg n esz x i =>
   (match evV E F x, evInt E F i with
    | some (.agg cs), some j => (match x with
      | .c _ => WTab agg n esz cs j (wv H K)
      | _ => WSplit n j (fun k => match partOf agg esz (.agg cs) (k * esz) with | some p => wv H K p | none => False) n)
    | _, _ => False)
 | .slc esz x lo hi mx =>
   (match evV E F x, evO E F lo, evO E F hi, evO E F mx with
    | some p, some l, some h, some m => (match (m.isSome && h.isNone) with | true => False | false => WSlice H esz l h m p (wv H K))
    | _, _, _, _ => False)
 | .mkSl pu esz bytes z l c =>
   (match evInt E F l, evInt E F c with
    | some l, some c => asr (decide (0 ≤ l)) (asr (decide (l ≤ c)) (asr (decide ((c.toNat + 64) * (bytes + 1) ≤ room))
        (K (some (.v (.own H.length 0 l.toNat c.toNat (some c.toNat)))) none (H ++ [⟨false, pu, esz, List.replicate c.toNat z⟩]))))
    | _, _ => False)
 | .app pu esz bytes s x =>
   (match evV E F s, evV E F x with
    | some s, some x => WRows H x fun ys => asr (headOk esz ys) (asr (srcOk H pu x) (WApp a.md H pu esz bytes s ys fun r H' => K (some (.v r)) none H'))
    | _, _ => False)
 | .appZ pu esz bytes z s n =>
   (match evV E F s, evInt E F n with
    | some .nils, some k => asr (decide (0 ≤ k)) (cbr (decide (k.toNat = 0)) (wv H K .nils) (WFresh H pu esz bytes (List.replicate k.toNat z) fun r H' => K (some (.v r)) none H'))
    | _, _ => False)
 | .eqN neg x =>
   (match evV E F x with
    | some .nils => wv H K (.bool (bif neg then false else true))
    | some (.mt b) => wv H K (.bool (bif neg then !b else b))
    | some (.data rows) => asr (!rows.isEmpty) (wv H K (.bool neg))
    | some (.own _ _ _ _ _) => wv H K (.bool neg)
    | _ => False)
 | .clr pu esz z x =>
   (match evV E F x with
    | some .nils => wv H K (.tup [])
    | some .emp => wv H K (.tup [])
    | some (.mt _) => wv H K (.tup [])
    | some (.own id lo len ext _) => (match H[id]? with
      | some b => cbr (decide (len = 0)) (wv H K (.tup [])) (asr (decide (b.rows.length = ext)) (asr (decide (lo + len ≤ ext)) (asr (!b.fz) (asr (b.pu == pu) (asr (Nat.beq b.esz esz) (K (some (.v (.tup []))) none (H.set id { b with rows := b.rows.take lo ++ (List.replicate len z ++ b.rows.drop (lo + len)) })))))))
      | none => False)
    | _ => False)
 | .boxH pu esz x =>
   (match evV E F x with
    | some p => WPurIf pu H p fun q H' => asr (Nat.beq q.cells.length esz && allOne q.cells) (K (some (.v (.ptr H'.length 1 0 0))) none (H' ++ [⟨false, pu, esz, [q]⟩]))
    | none => False)
 | .buildSl pu esz z len parts =>
   (match len with
    | 0 => wv H K .emp
    | len + 1 => WFill E F pu esz (List.replicate (len + 1) z) H parts fun rows H' => K (some (.v (.own H'.length 0 (len + 1) (len + 1) (some (len + 1))))) none (H' ++ [⟨false, pu, esz, rows⟩]))
 | .buildN pu esz z len parts =>
   (match len with
    | 0 => wv H K .emp
    | len + 1 => WFill E F pu esz (List.replicate (len + 1) z) H parts fun rows H' => K (some (.v (.own H'.length 0 (len + 1) (len + 1) none))) none (H' ++ [⟨false, pu, esz, rows⟩]))
 | .buildD esz z len parts =>
   (match len with
    | 0 => wv H K .emp
    | len + 1 => WFill E F true esz (List.replicate (len + 1) z) H parts fun rows H' => K (some (.v (.data rows))) none H')
 | .mvD x =>
   (match evV E F x with
    | some p => WPur1 H p fun q H' => (match q with | .data rows => K (some (.v (.data rows))) none H' | _ => False)
    | none => False)
 | .call f args =>
   (match evV E F f, evs E F args with
    | some g, some vs => callK g vs H fun r H' => K (some (.v r)) none H'
    | _, _ => False)
 | o => (match opOut E noCall F H o with | some ⟨x, bx, H'⟩ => K x bx H' | none => False)
def frep : Frm → Nat → FV → Frm
 | [], _, _ => []
 | (k, y) :: r, s, x => bif Nat.beq k s then (k, x) :: r else (k, y) :: frep r s x
def WGuard (F : Frm) (g : Option (Nat × Bool)) (yes no : Frm → Prop) : Prop :=
 match g with
 | none => yes F
 | some (s, want) => (match fget F s with
   | some (.v (.bool b)) => (match want with
     | true => cbr b (yes (frep F s (.v (.bool true)))) (no (frep F s (.v (.bool false))))
     | false => cbr b (no (frep F s (.v (.bool true)))) (yes (frep F s (.v (.bool false)))))
   | some (.v (.tup [])) => no F
   | _ => False)
def fref (F : Frm) (c : Opd) (b : Bool) : Frm :=
 match c with
 | .t s => frep F s (.v (.bool b))
 | _ => F
def skipDst (F : Frm) : Option Nat → Frm
 | some d => fset F d (.v (.tup []))
 | none => F
def frcP (p : PV) (K : PV → Prop) : Prop :=
 match p with
 | .bool b => K (.bool b)
 | .int k n => K (.int k n)
 | .agg cs => K (.agg cs)
 | .data r => K (.data r)
 | .own a b c d e => K (.own a b c d e)
 | .ptr a b c d => K (.ptr a b c d)
 | .sub a b c d e f => K (.sub a b c d e f)
 | p => K p
def frcL : List PV → (List PV → Prop) → Prop
 | [], K => K []
 | x :: r, K => frcP x fun x => frcL r fun r => K (x :: r)
def frcA (p : PV) (K : PV → Prop) : Prop :=
 match p with
 | .agg cs => frcL cs fun cs => K (.agg cs)
 | .tup cs => frcL cs fun cs => K (.tup cs)
 | p => frcP p K
def frcV (x : FV) (K : FV → Prop) : Prop :=
 match x with
 | .v p => frcA p fun p => K (.v p)
 | .box p => frcA p fun p => K (.box p)
 | .bp s o => K (.bp s o)
def frcF : Frm → (Frm → Prop) → Prop
 | [], K => K []
 | (k, x) :: r, K => frcV x fun x => frcF r fun r => K ((k, x) :: r)
def frcB (b : Bool) (K : Bool → Prop) : Prop := match b with | true => K true | false => K false
def frcH : Hp → (Hp → Prop) → Prop
 | [], K => K []
 | ⟨fz, pu, esz, rows⟩ :: r, K => frcB fz fun fz => frcB pu fun pu => frcH r fun r => K (⟨fz, pu, esz, rows⟩ :: r)
theorem frcP_eq (p : PV) (K : PV → Prop) : frcP p K = K p := by cases p <;> rfl
theorem frcL_eq : ∀ (l : List PV) (K : List PV → Prop), frcL l K = K l
 | [], _ => rfl
 | x :: r, K => by simp only [frcL, frcP_eq, frcL_eq r]
theorem frcA_eq (p : PV) (K : PV → Prop) : frcA p K = K p := by cases p <;> simp only [frcA, frcL_eq, frcP_eq]
theorem frcV_eq (x : FV) (K : FV → Prop) : frcV x K = K x := by cases x <;> simp only [frcV, frcA_eq]
theorem frcF_eq : ∀ (F : Frm) (K : Frm → Prop), frcF F K = K F
 | [], _ => rfl
 | (k, x) :: r, K => by simp only [frcF, frcV_eq, frcF_eq r]
theorem frcB_eq (b : Bool) (K : Bool → Prop) : frcB b K = K b := by cases b <;> rfl
theorem frcH_eq : ∀ (H : Hp) (K : Hp → Prop), frcH H K = K H
 | [], _ => rfl
 | ⟨fz, pu, esz, rows⟩ :: r, K => by simp only [frcH, frcB_eq, frcH_eq r]
def frc (F : Frm) (H : Hp) (K : Frm → Hp → Prop) : Prop := frcF F fun F => frcH H fun H => K F H
theorem frc_eq (F : Frm) (H : Hp) (K : Frm → Hp → Prop) : frc F H K = K F H := by simp only [frc, frcF_eq, frcH_eq]
def WOps (E : Env) (callK : CK) (an : List An) : List AOper → Nat → Frm → Hp → (Frm → Hp → Prop) → Prop
 | [], _, F, H, K => K F H
 | o :: r, i, F, H, K =>
   WGuard F o.guard
     (fun F => WOp E callK (anOf an i) F H o.op fun x bx H' => match putDst (putBx F bx) o.dst x with
       | none => False
       | some F' => frc F' H' fun F' H' => WOps E callK an r (i + 1) F' H' K)
     (fun F => WOps E callK an r (i + 1) (skipDst F o.dst) H K)
def locIds (E : Env) (F : Frm) (f : Opd) (az : List Opd) : Option (List Nat) :=
 match evV E F f, evs E F az with
 | some g, some vs => (match locOf E g vs with
   | some x => some (x.id :: idsA (x.all.set x.j (.int .i64 0)))
   | none => (match g with
     | .fn (.func n) first captured => bif E.qui n then some (idsA (first ++ vs ++ captured)) else none
     | _ => none))
 | _, _ => none
def fpOpW (E : Env) (F : Frm) (H : Hp) (o : AOp) : FP :=
 match o with
 | .call f az => bif quietCall E F f az then fpOp E F H (.call f az) else (match locIds E F f az with | some l => ⟨f.slots ++ slotsL az, [], List.range H.length, l, true, false⟩ | none => fpOp E F H (.call f az))
 | o => fpOp E F H o
def fpYes (E : Env) (F : Frm) (H : Hp) (o : AOper) : FP :=
 let p := fpOpW E F H o.op; ⟨gSlots o.guard ++ p.rd, o.dst.toList ++ p.wr, p.hr, p.hw, p.push, p.all⟩
def fpNo (o : AOper) : FP := ⟨gSlots o.guard, o.dst.toList, [], [], false, false⟩
def WFps (E : Env) (callK : CK) (an : List An) (F0 : Frm) (l0 : List AOper) (pairs : List (Nat × Nat)) : List AOper → Nat → Frm → Hp → List FP → (Frm → Hp → Prop) → Prop
 | [], _, F, H, ps, K => asr (apart ps.reverse pairs && boxesOk F0 l0 l0) (K F H)
 | o :: r, i, F, H, ps, K =>
   WGuard F o.guard
     (fun F => WOp E callK (anOf an i) F H o.op fun x bx H' => match putDstU (putBx F bx) o.dst x with
       | none => False
       | some F' => frc F' H' fun F' H' => WFps E callK an F0 l0 pairs r (i + 1) F' H' (fpYes E F H o :: ps) K)
     (fun F => WFps E callK an F0 l0 pairs r (i + 1) (skipDst F o.dst) H (fpNo o :: ps) K)
abbrev LP := Nat → Frm → Frm → Hp → (Ex → Frm → Hp → Prop) → Prop
abbrev YK := List PV → Hp → (Option Nat → Hp → Prop) → Prop
def noYK : YK := fun _ _ _ => False
def WC (E : Env) (callK : CK) (lp : LP) : Frm → YK → TCode → Frm → Hp → (Ex → Frm → Hp → Prop) → Prop
 | _, _, .skip, F, H, Q => Q .norm F H
 | _, _, .ops l an [] fg, F, H, Q => WOps E callK an l 0 F H fun F' H' => frc (fdels F' fg) H' fun F' H' => Q .norm F' H'
 | _, _, .ops l an (p :: ps) fg, F, H, Q => WFps E callK an (cleanB F l) l (p :: ps) l 0 (cleanB F l) H [] fun F' H' => frc (fdels F' fg) H' fun F' H' => Q .norm F' H'
 | G, yk, .seq a b, F, H, Q => WC E callK lp G yk a F H fun x F' H' => match x with
   | .norm => WC E callK lp G yk b F' H' Q
   | .exit i => Q (.exit i) F' H'
   | .ret => Q .ret F' H'
   | .brk k i => Q (.brk k i) F' H'
 | G, yk, .cond c a b, F, H, Q => (match evV E F c with
   | some (.bool t) => cbr t (WC E callK lp G yk a (fref F c true) H Q) (WC E callK lp G yk b (fref F c false) H Q)
   | _ => False)
 | G, yk, .block id b, F, H, Q => WC E callK lp G yk b F H fun x F' H' => match x with
   | .norm => Q .norm F' H'
   | .exit i => (bif Nat.beq i id then Q .norm F' H' else Q (.exit i) F' H')
   | .ret => Q .ret F' H'
   | .brk k i => Q (.brk k i) F' H'
 | G, _, .loop id _, F, H, Q => lp id G F H Q
 | G, _, .loopG id _, F, H, Q => lp id G F H Q
 | G, _, .join id _, F, H, Q => lp id G F H Q
 | _, _, .exit id, F, H, Q => Q (.exit id) F H
 | _, _, .ret, F, H, Q => Q .ret F H
 | _, _, .bad, _, _, _ => False
 | _, _, .cut _, _, _, _ => False
 | _, _, .rangeF _ _ _ _ _ _ _, _, _, _ => False
 | _, _, .yret _ _ _ _ _ _ _, _, _, _ => False
abbrev Qx : Type := Ex → Frm → Hp → Prop
abbrev exQ (R : Frm → Hp → Prop) (Q : Qx) : Qx := fun x F' H' => match x with | .norm => R F' H' | .exit i => Q (.exit i) F' H' | .ret => Q .ret F' H' | .brk k i => Q (.brk k i) F' H'
def WFn (E : Env) (callK : CK) (lp : LP) (fn : TFn) (args : List PV) (H : Hp) (K : PV → Hp → Prop) : Prop :=
 asr (decide (args.length = fn.nparams)) (WC E callK lp [] noYK fn.body (frame0 0 args) H fun x F' H' => match x with
   | .exit _ | .brk _ _ => False
   | .norm | .ret => (match ressOf F' H' fn.results with | some ps => K (packed ps) H' | none => False))
structure SE where
 E : Env
 sumK : Nat → Option (List PV → (PV → Prop) → Prop)
 inl : Nat → Option TFn
 lp : LP
 sumL : Nat → Option (List PV → HB → (PV → List PV → Prop) → Prop)
def WLoc (wp : List PV → HB → (PV → List PV → Prop) → Prop) (x : LocC) (H : Hp) (K : PV → Hp → Prop) : Prop :=
 WPurA H (x.all.set x.j (.int .i64 0)) fun az H' => match H'[x.id]? with
   | some b => asr (!b.fz && b.pu) (wp (az.set x.j x.y) b fun q rows => K q (H'.set x.id { b with rows := rows }))
   | none => False
def callW (S : SE) : Nat → CK
 | 0, _, _, _, _ => False
 | d + 1, f, args, H, K =>
   match f with
   | .fn (.func n) first captured =>
     (match locOf S.E f args with
     | some x => (match S.sumL x.n with | some wp => WLoc wp x H K | none => False)
     | none =>
     match S.sumK n with
      | some wp => (bif S.E.rb n then WPurPs (iceH H) (first ++ args ++ captured) fun az => wp az fun r => asr r.scalar (K r H)
        else WPurA H (first ++ args ++ captured) fun az H' => wp az fun r => K r (bif r.scalar then H else H'))
      | none => (match S.inl n with
        | some fn => (bif S.E.rb n then False else WFn S.E (callW S d) S.lp fn (first ++ args ++ captured) H K)
        | none => (match S.E.eff n (first ++ args ++ captured) H with
          | some (c, t, x, y) => asr c (cbr t (K x.1 x.2) (K y.1 y.2))
          | none => False)))
   | _ => False
@[irreducible] def WP (S : SE) (d : Nat) (fn : TFn) (args : List PV) (K : PV → Prop) : Prop :=
 WFn S.E (callW S d) S.lp fn args [] fun r H => WPurR H r K
end Go.Pf
namespace Go.Pf
open Go
abbrev EP := Nat → Env → Prop
def Like (E e : Env) : Prop := e = { E with yn := e.yn, ctx := e.ctx, yl := e.yl }
def Uni (E : Env) : EP := fun _ e => Like E e
def Solo (E : Env) : EP := fun _ e => e = E
def Ats (E : Env) : EP := fun _ e => e = E.ats (E.yn + 1)
def Sub (P : EP) (E : Env) : Prop := ∀ n e, P n e → Like E e
theorem Sub.uni (E : Env) : Sub (Uni E) E := fun _ _ h => h
def hnd (E : Env) (G : Frm) (ps : List Nat) (az bd : ACode) (n : Nat) : Nat → List PV → Hp → Option (Option Nat × Hp) := fun y vs H => (match setPs G ps vs with
               | some F1 => (match exec (E.ats y) n az F1 H with
                 | some (.norm, F2, H2) => (match exec (E.ats y) n bd F2 H2 with
                   | some (.norm, _, H3) => some (none, H3)
                   | some (.exit i, _, H3) => some (some i, H3)
                   | _ => none)
                 | _ => none)
               | none => none)
def Rng (E : Env) (G : Frm) (ps : List Nat) (az bd : ACode) : EP := fun n e => e = E.push ⟨G, ps, az, bd⟩ (hnd E G ps az bd n)
def Good (P : EP) (callK : CK) : Prop :=
 ∀ f args H K, callK f args H K → ∃ r H', K r H' ∧ ∃ m0, ∀ n e m, m0 ≤ n → P n e → m0 ≤ m → callV e (inline e m) f args H = some (r, H')
section
variable {E : Env} {y : Nat} {cx : Nat → Option LCtx} {yl : Nat → Nat → List PV → Hp → Option (Option Nat × Hp)}
theorem ev_like (F : Frm) (x : Opd) : ev { E with yn := y, ctx := cx, yl := yl } F x = ev E F x := by cases x <;> rfl
theorem evV_like (F : Frm) (x : Opd) : evV { E with yn := y, ctx := cx, yl := yl } F x = evV E F x := by simp only [evV, ev_like]
theorem evs_like (F : Frm) : ∀ l : List Opd, evs { E with yn := y, ctx := cx, yl := yl } F l = evs E F l
 | [] => rfl
 | x :: r => by simp only [evs, evV_like, evs_like F r]
theorem evInt_like (F : Frm) (x : Opd) : evInt { E with yn := y, ctx := cx, yl := yl } F x = evInt E F x := by simp only [evInt, evV_like]
theorem evO_like (F : Frm) (x : Option Opd) : evO { E with yn := y, ctx := cx, yl := yl } F x = evO E F x := by cases x <;> simp only [evO, evInt_like]
theorem fillP_like (F : Frm) : ∀ (l : List (Nat × Nat × Opd)) (cs : List PV), fillP { E with yn := y, ctx := cx, yl := yl } F cs l = fillP E F cs l
 | [], _ => rfl
 | (_, _, x) :: r, cs => by simp only [fillP, evV_like, fillP_like F r]
theorem fillR_like (F : Frm) (pu : Bool) (esz : Nat) : ∀ (l : List (Nat × Opd)) (rows : List PV) (H : Hp), fillR { E with yn := y, ctx := cx, yl := yl } F pu esz rows H l = fillR E F pu esz rows H l
 | [], _, _ => rfl
 | (_, x) :: r, rows, H => by simp only [fillR, evV_like, fillR_like F pu esz r]
theorem idsOpd_like (F : Frm) (x : Opd) : idsOpd { E with yn := y, ctx := cx, yl := yl } F x = idsOpd E F x := by simp only [idsOpd, ev_like]
theorem bpOpd_like (F : Frm) (x : Opd) : bpOpd { E with yn := y, ctx := cx, yl := yl } F x = bpOpd E F x := by simp only [bpOpd, ev_like]
theorem idsParts_like (F : Frm) : ∀ l : List (Nat × Opd), idsParts { E with yn := y, ctx := cx, yl := yl } F l = idsParts E F l
 | [] => rfl
 | (_, x) :: r => by simp only [idsParts, idsOpd_like, idsParts_like F r]
theorem quietCall_like (F : Frm) (f : Opd) (az : List Opd) : quietCall { E with yn := y, ctx := cx, yl := yl } F f az = quietCall E F f az := by simp only [quietCall, evV_like, evs_like]
theorem fpOp_like (F : Frm) (H : Hp) (o : AOp) : fpOp { E with yn := y, ctx := cx, yl := yl } F H o = fpOp E F H o := by
 cases o <;> simp only [fpOp, idsOpd_like, bpOpd_like, idsParts_like, quietCall_like]
theorem opOut_like {F : Frm} {H : Hp} {o : AOp} (h : isCall o = false) (c1 c2 : Nat → List PV → Hp → Option (PV × Hp)) : opOut { E with yn := y, ctx := cx, yl := yl } c1 F H o = opOut E c2 F H o := by
 cases o <;> first | (simp [isCall] at h; done) | simp only [opOut, ev_like, evV_like, evs_like, evInt_like, evO_like, fillP_like, fillR_like]
end
def OpGood0 (E : Env) (F : Frm) (H : Hp) (o : AOp) (K : OK) : Prop :=
 ∃ out : Out, K out.x out.bx out.h ∧ ∃ m0, ∀ m, m0 ≤ m → opOut E (inline E m) F H o = some out
def OpGood (P : EP) (F : Frm) (H : Hp) (o : AOp) (K : OK) : Prop :=
 ∃ out : Out, K out.x out.bx out.h ∧ ∃ m0, ∀ n e m, m0 ≤ n → P n e → m0 ≤ m → opOut e (inline e m) F H o = some out
section
variable {E : Env} {callK : CK} {F : Frm} {H : Hp} {K : OK}
theorem opOut_irrel {o : AOp} (h : isCall o = false) (c1 c2 : Nat → List PV → Hp → Option (PV × Hp)) : opOut E c1 F H o = opOut E c2 F H o := by
 cases o <;> first | rfl | simp [isCall] at h
theorem def_good {o : AOp} (hc : isCall o = false) (h : match opOut E noCall F H o with | some ⟨x, bx, H'⟩ => K x bx H' | none => False) : OpGood0 E F H o K := by
 split at h
 · rename_i x bx H' he
   exact ⟨⟨x, bx, H'⟩, h, 0, fun m _ => by rw [opOut_irrel hc (inline E m) noCall, he]⟩
 · exact h.elim
theorem WPur1_ok {H : Hp} {x : PV} {K : PV → Hp → Prop} (h : WPur1 H x K) : ∃ y H', K y H' ∧ purify1 H x = some (y, H') := by
 unfold WPur1 at h
 split at h
 · exact ⟨_, _, h, rfl⟩
 · exact ⟨_, _, h, rfl⟩
 · exact ⟨_, _, h, rfl⟩
 · exact ⟨_, _, h, rfl⟩
 · exact ⟨_, _, h, rfl⟩
 · split at h
   · rename_i b hb
     obtain ⟨h1, h⟩ := asr_iff.1 h
     obtain ⟨h2, h⟩ := asr_iff.1 h
     obtain ⟨h3, h⟩ := asr_iff.1 h
     exact ⟨_, _, h, by simp only [purify1, hb]; rw [if_pos ⟨by simpa using h1, by simpa using h2, h3⟩]⟩
   · exact h.elim
 · exact h.elim
theorem WPurL_ok : ∀ (l : List PV) (H : Hp) (K : List PV → Hp → Prop), WPurL H l K → ∃ ys H', K ys H' ∧ purifyL H l = some (ys, H')
 | [], H, K, h => ⟨_, _, h, rfl⟩
 | x :: r, H, K, h => by
   simp only [WPurL] at h
   obtain ⟨y, H1, h, e1⟩ := WPur1_ok h
   obtain ⟨ys, H2, h, e2⟩ := WPurL_ok r H1 _ h
   exact ⟨_, _, h, by simp only [purifyL, e1, e2]⟩
theorem WPurV_ok {H : Hp} {x : PV} {K : PV → Hp → Prop} (h : WPurV H x K) : ∃ y H', K y H' ∧ purify H x = some (y, H') := by
 cases x with
 | agg cs =>
   simp only [WPurV] at h
   obtain ⟨ys, H', h, e⟩ := WPurL_ok cs H _ h
   exact ⟨_, _, h, by simp only [purify, e, Option.map]⟩
 | _ =>
   simp only [WPurV] at h
   obtain ⟨y, H', h, e⟩ := WPur1_ok h
   exact ⟨_, _, h, by simp only [purify, e]⟩
theorem WPurA_ok : ∀ (l : List PV) (H : Hp) (K : List PV → Hp → Prop), WPurA H l K → ∃ ys H', K ys H' ∧ purifyAll H l = some (ys, H')
 | [], H, K, h => ⟨_, _, h, rfl⟩
 | x :: r, H, K, h => by
   simp only [WPurA] at h
   obtain ⟨y, H1, h, e1⟩ := WPurV_ok h
   obtain ⟨ys, H2, h, e2⟩ := WPurA_ok r H1 _ h
   exact ⟨_, _, h, by simp only [purifyAll, e1, e2]⟩
theorem WPurP_ok {H : Hp} {x : PV} {K : PV → Prop} (h : WPurP H x K) : ∃ y, K y ∧ purP H x = some y := by
 have base : ∀ {x : PV}, WPurV H x (fun q _ => K q) → ∃ y, K y ∧ (match purify H x with | some (q, _) => some q | none => none) = some y := fun h => by
   obtain ⟨y, H', h, e⟩ := WPurV_ok h
   exact ⟨y, h, by simp only [e]⟩
 cases x with
 | ptr id ext i off =>
   simp only [WPurP] at h
   split at h
   · rename_i b hb
     obtain ⟨h1, h⟩ := asr_iff.1 h
     split at h
     · rename_i row hrow
       obtain ⟨y, H', h, e⟩ := WPurV_ok h
       exact ⟨_, h, by simp only [purP, hb, hrow, e]; rw [if_pos (by simpa using h1)]⟩
     · exact h.elim
   · exact h.elim
 | eptr rows i off => exact ⟨_, h, rfl⟩
 | _ => simp only [WPurP] at h; exact base h
theorem WPurPs_ok {H : Hp} : ∀ (l : List PV) (K : List PV → Prop), WPurPs H l K → ∃ ys, K ys ∧ purPs H l = some ys
 | [], K, h => ⟨_, h, rfl⟩
 | x :: r, K, h => by
   simp only [WPurPs] at h
   obtain ⟨y, h, e1⟩ := WPurP_ok h
   obtain ⟨ys, h, e2⟩ := WPurPs_ok r _ h
   exact ⟨_, h, by simp only [purPs, e1, e2]⟩
theorem WPurR_ok {H : Hp} {x : PV} {K : PV → Prop} (h : WPurR H x K) : ∃ q, K q ∧ purR H x = some q := by
 cases x with
 | tup ps =>
   simp only [WPurR] at h
   obtain ⟨ys, H', h, e⟩ := WPurA_ok ps H _ h
   exact ⟨_, h, by simp only [purR, e]⟩
 | _ =>
   simp only [WPurR] at h
   obtain ⟨y, H', h, e⟩ := WPurV_ok h
   exact ⟨_, h, by simp only [purR, e]⟩
theorem WPurIf_ok {pu : Bool} {H : Hp} {x : PV} {K : PV → Hp → Prop} (h : WPurIf pu H x K) : ∃ y H', K y H' ∧ (if pu then purify H x else some (x, H)) = some (y, H') := by
 cases pu with
 | true => simp only [WPurIf] at h; obtain ⟨y, H', h, e⟩ := WPurV_ok h; exact ⟨y, H', h, by simpa using e⟩
 | false => exact ⟨_, _, h, by simp⟩
theorem WFill_ok {pu : Bool} {esz : Nat} : ∀ (l : List (Nat × Opd)) (rows : List PV) (H : Hp) (K : List PV → Hp → Prop), WFill E F pu esz rows H l K →
   ∃ rows' H', K rows' H' ∧ fillR E F pu esz rows H l = some (rows', H')
 | [], rows, H, K, h => ⟨_, _, h, rfl⟩
 | (i, x) :: r, rows, H, K, h => by
   simp only [WFill] at h
   split at h
   · rename_i p hp
     obtain ⟨q, H', h, e⟩ := WPurIf_ok h
     obtain ⟨h1, h⟩ := asr_iff.1 h
     simp only [Bool.and_eq_true] at h1
     obtain ⟨rows', H2, h, e2⟩ := WFill_ok r _ H' K h
     refine ⟨rows', H2, h, ?_⟩
     simp only [fillR, hp, e]
     rw [if_pos ⟨Nat.eq_of_beq_eq_true h1.1.1, (show i + 1 ≤ rows.length from Nat.le_of_ble_eq_true h1.1.2), h1.2⟩]
     exact e2
   · exact h.elim
theorem WBin_ok {op : BinOp} {k k' : IntKind} {a b : Int} {K : PV → Prop} (h : WBin op k k' a b K) : ∃ r, K r ∧ binV op (.int k a) (.int k' b) = some r := by
 cases op <;> simp only [WBin] at h
 case quo =>
   obtain ⟨h1, h2⟩ := asr_iff.1 h
   obtain ⟨h3, h4⟩ := asr_iff.1 h2
   have e1 : k = k' := by simpa using h1
   have e2 : ¬ b = 0 := by simpa using h3
   exact ⟨_, h4, by simp [binV, e1, binI, e2]⟩
 case rem =>
   obtain ⟨h1, h2⟩ := asr_iff.1 h
   obtain ⟨h3, h4⟩ := asr_iff.1 h2
   have e1 : k = k' := by simpa using h1
   have e2 : ¬ b = 0 := by simpa using h3
   exact ⟨_, h4, by simp [binV, e1, binI, e2]⟩
 case shl =>
   obtain ⟨h1, h2⟩ := asr_iff.1 h
   have e1 : ¬ b < 0 := by simpa using h1
   exact ⟨_, h2, by simp only [binV, shiftI, e1, if_false]⟩
 case shr =>
   obtain ⟨h1, h2⟩ := asr_iff.1 h
   have e1 : ¬ b < 0 := by simpa using h1
   exact ⟨_, h2, by simp only [binV, shiftI, e1, if_false]⟩
 all_goals
   obtain ⟨h1, h2⟩ := asr_iff.1 h
   have e1 : k = k' := by simpa using h1
   split at h2
   · rename_i r hr
     exact ⟨r, h2, by simp only [binV, e1, if_true]; rw [← e1]; exact hr⟩
   · exact h2.elim
theorem WSplit_ok {n : Nat} {j : Int} {K : Nat → Prop} : ∀ m, m ≤ n → WSplit n j K m → ∃ k : Nat, K k ∧ j = (k : Int) ∧ k < n
 | 0, _, h => h.elim
 | m + 1, hm, h => by
   simp only [WSplit] at h
   obtain ⟨h1, h2⟩ := cbr_iff.1 h
   by_cases hj : j = ((n - (m + 1) : Nat) : Int)
   · exact ⟨_, h1 (by simpa using hj), hj, by omega⟩
   · exact WSplit_ok m (by omega) (h2 (by simpa using hj))
theorem allU8_get : ∀ (cs : List PV) (i : Nat), allU8 cs = true → i < cs.length → cs[i]? = some (.int .u8 (intOfV (cs.getD i .nils)))
 | [], i, _, h => by simp at h
 | x :: r, i, hu, hi => by
   cases x with
   | int k n =>
     cases k <;> simp only [allU8, Bool.false_eq_true] at hu
     cases i with
     | zero => simp [intOfV]
     | succ i => have := allU8_get r i hu (by simpa using hi); simpa using this
   | _ => simp [allU8] at hu
theorem WRows_ok {x : PV} {K : List PV → Prop} (h : WRows H x K) : ∃ ys, K ys ∧ rowsOf H x = some ys := by
 unfold WRows at h
 split at h
 · exact ⟨_, h, rfl⟩
 · exact ⟨_, h, rfl⟩
 · exact ⟨_, h, rfl⟩
 · split at h
   · rename_i b hb
     obtain ⟨h1, h2⟩ := asr_iff.1 h
     obtain ⟨h3, h4⟩ := asr_iff.1 h2
     exact ⟨_, h4, by simp only [rowsOf, hb]; rw [if_pos ⟨by simpa using h1, by simpa using h3⟩]⟩
   · exact h.elim
 · exact h.elim
theorem WFresh_ok {pu : Bool} {esz bytes : Nat} {rows : List PV} {K : PV → Hp → Prop} (h : WFresh H pu esz bytes rows K) : ∃ r H', K r H' ∧ appFresh H pu esz bytes rows = some (r, H') := by
 obtain ⟨h1, h2⟩ := asr_iff.1 h
 exact ⟨_, _, h2, by simp only [appFresh]; rw [if_pos (by simpa using h1)]⟩
def appS (H : Hp) (pu : Bool) (esz bytes : Nat) (ys : List PV) : PV → Option (PV × Hp)
 | .nils => if ys.isEmpty then some (.nils, H) else appFresh H pu esz bytes ys
 | .emp => if ys.isEmpty then some (.emp, H) else appFresh H pu esz bytes ys
 | .own id lo len ext cap =>
   (match H[id]? with
    | some b => if b.rows.length = ext ∧ b.pu = pu ∧ b.esz = esz ∧ lo + len ≤ ext then
        (if ys.isEmpty then some (.own id lo len ext cap, H) else appOwn H pu esz bytes ys id lo len ext cap b) else none
    | none => none)
 | _ => none
theorem WApp_ok {md : Nat} {pu : Bool} {esz bytes : Nat} {s x : PV} {ys : List PV} {K : PV → Hp → Prop} (hy : rowsOf H x = some ys) (hh : headOk esz ys = true) (hs : srcOk H pu x = true) (h : WApp md H pu esz bytes s ys K) :
   ∃ r H', K r H' ∧ appV H pu esz bytes s x = some (r, H') := by
 have e0 : appV H pu esz bytes s x = appS H pu esz bytes ys s := by
   simp only [appV, hy]; rw [if_pos ⟨hh, hs⟩]; cases s <;> rfl
 rw [e0]
 clear e0 hy hs
 unfold WApp at h
 split at h
 · obtain ⟨h1, h2⟩ := cbr_iff.1 h
   cases hE : ys.isEmpty with
   | true => exact ⟨_, _, h1 hE, by simp [appS, hE]⟩
   | false =>
     obtain ⟨r, H', hk, hf⟩ := WFresh_ok (h2 hE)
     exact ⟨r, H', hk, by simp [appS, hE, hf]⟩
 · obtain ⟨h1, h2⟩ := cbr_iff.1 h
   cases hE : ys.isEmpty with
   | true => exact ⟨_, _, h1 hE, by simp [appS, hE]⟩
   | false =>
     obtain ⟨r, H', hk, hf⟩ := WFresh_ok (h2 hE)
     exact ⟨r, H', hk, by simp [appS, hE, hf]⟩
 · rename_i id lo len ext cap
   split at h
   · rename_i b hb
     obtain ⟨h1, h⟩ := asr_iff.1 h
     obtain ⟨h2, h⟩ := asr_iff.1 h
     obtain ⟨h3, h⟩ := asr_iff.1 h
     simp only [Bool.and_eq_true, decide_eq_true_eq] at h1 h2 h3
     obtain ⟨k1, k2⟩ := cbr_iff.1 h
     have hc : b.rows.length = ext ∧ b.pu = pu ∧ b.esz = esz ∧ lo + len ≤ ext := ⟨h1, h2.1, h2.2, h3⟩
     cases hE : ys.isEmpty with
     | true => exact ⟨_, _, k1 hE, by simp only [appS, hb]; rw [if_pos hc]; simp [hE]⟩
     | false =>
       have h := k2 hE
       suffices ∃ r H', K r H' ∧ appOwn H pu esz bytes ys id lo len ext cap b = some (r, H') by
         obtain ⟨r, H', hk, hf⟩ := this
         exact ⟨r, H', hk, by simp only [appS, hb]; rw [if_pos hc]; simp [hE, hf]⟩
       cases cap with
       | some c =>
         simp only at h
         have key1 : decide (len + ys.length ≤ c) = true → asr (!b.fz) (K (.own id lo (len + ys.length) ext (some c)) (H.set id { b with rows := b.rows.take (lo + len) ++ (ys ++ b.rows.drop (lo + len + ys.length)) })) →
             ∃ r H', K r H' ∧ appOwn H pu esz bytes ys id lo len ext (some c) b = some (r, H') := by
           intro e1 e2
           obtain ⟨e3, e4⟩ := asr_iff.1 e2
           refine ⟨_, _, e4, ?_⟩
           simp only [appOwn]
           rw [if_pos (by simpa using e1), if_pos (by simpa using e3)]
         have key2 : decide (len + ys.length ≤ c) = false → WFresh H pu esz bytes ((b.rows.drop lo).take len ++ ys) K →
             ∃ r H', K r H' ∧ appOwn H pu esz bytes ys id lo len ext (some c) b = some (r, H') := by
           intro e1 e2
           obtain ⟨r, H', hk, hf⟩ := WFresh_ok e2
           refine ⟨r, H', hk, ?_⟩
           simp only [appOwn]
           rw [if_neg (by simpa using e1)]
           exact hf
         split at h
         · obtain ⟨a1, a2⟩ := cbr_iff.1 h
           cases hd : decide (len + ys.length ≤ c) with
           | true => exact key1 hd (a1 hd)
           | false => exact key2 hd (a2 hd)
         · obtain ⟨a1, a2⟩ := cbr_iff.1 h
           cases hd : decide (len + ys.length ≤ c) with
           | true => exact key1 hd (a1 hd)
           | false => exact key2 hd (a2 hd)
         · obtain ⟨a1, a2⟩ := asr_iff.1 h; exact key2 (by simpa using a1) a2
         · obtain ⟨a1, a2⟩ := asr_iff.1 h; exact key1 a1 a2
       | none =>
         simp only at h
         obtain ⟨hfz, h⟩ := asr_iff.1 h
         have hfz' : ¬ b.fz = true := by simpa using hfz
         have key1 : decide (lo + len + ys.length ≤ ext) = true → K (.own id lo (len + ys.length) ext none) (H.set id { b with rows := b.rows.take (lo + len) ++ (ys ++ b.rows.drop (lo + len + ys.length)) }) →
             ∃ r H', K r H' ∧ appOwn H pu esz bytes ys id lo len ext none b = some (r, H') := by
           intro e1 e2
           refine ⟨_, _, e2, ?_⟩
           simp only [appOwn]
           rw [if_neg hfz', if_pos (by simpa using e1)]
         have key3 : decide (lo + len + ys.length ≤ ext) = false → asr (decide (lo = 0)) (asr (decide (len = ext)) (asr (decide ((ext + ys.length + 64) * (bytes + 1) ≤ room))
               (K (.own id 0 (b.rows ++ ys).length (b.rows ++ ys).length none) (H.set id { b with rows := b.rows ++ ys })))) →
             ∃ r H', K r H' ∧ appOwn H pu esz bytes ys id lo len ext none b = some (r, H') := by
           intro e1 e2
           obtain ⟨e3, e2⟩ := asr_iff.1 e2
           obtain ⟨e4, e2⟩ := asr_iff.1 e2
           obtain ⟨e5, e2⟩ := asr_iff.1 e2
           simp only [decide_eq_true_eq] at e3 e4 e5
           refine ⟨_, _, e2, ?_⟩
           simp only [appOwn]
           rw [if_neg hfz', if_neg (by simpa using e1), if_pos ⟨e3, by omega, by rw [e4]; exact e5⟩]
           have e6 : b.rows.take len = b.rows := List.take_of_length_le (by omega)
           have e7 : (b.rows ++ ys).length = len + ys.length := by rw [List.length_append, h1, e4]
           rw [e6, e7]
         have key4 : decide (lo + len + ys.length ≤ ext) = false → asr (decide (lo = 0)) (asr (decide (len ≤ ext)) (asr (decide ((len + ys.length + 64) * (bytes + 1) ≤ room))
               (K (.own id 0 (len + ys.length) (len + ys.length) none) (H.set id { b with rows := b.rows.take len ++ ys })))) →
             ∃ r H', K r H' ∧ appOwn H pu esz bytes ys id lo len ext none b = some (r, H') := by
           intro e1 e2
           obtain ⟨e3, e2⟩ := asr_iff.1 e2
           obtain ⟨e4, e2⟩ := asr_iff.1 e2
           obtain ⟨e5, e2⟩ := asr_iff.1 e2
           simp only [decide_eq_true_eq] at e3 e4 e5
           refine ⟨_, _, e2, ?_⟩
           simp only [appOwn]
           rw [if_neg hfz', if_neg (by simpa using e1), if_pos ⟨e3, e4, e5⟩]
         split at h
         · obtain ⟨a1, a2⟩ := cbr_iff.1 h
           cases hd : decide (lo + len + ys.length ≤ ext) with
           | true => exact key1 hd (a1 hd)
           | false => exact key3 hd (a2 hd)
         · obtain ⟨a1, a2⟩ := cbr_iff.1 h
           cases hd : decide (lo + len + ys.length ≤ ext) with
           | true => exact key1 hd (a1 hd)
           | false => exact key4 hd (a2 hd)
         · obtain ⟨a1, a2⟩ := asr_iff.1 h; exact key1 a1 a2
         · obtain ⟨a1, a2⟩ := asr_iff.1 h; exact key3 (by simpa using a1) a2
   · exact h.elim
 · exact h.elim
theorem WSlice_ok {esz : Nat} {lo hi mx : Option Int} {x : PV} {K : PV → Prop} (h : WSlice H esz lo hi mx x K) : ∃ r, K r ∧ sliceV H esz lo hi mx x = some r := by
 unfold WSlice at h
 split at h
 · obtain ⟨h1, h2⟩ := asr_iff.1 h
   simp only [Bool.and_eq_true, decide_eq_true_eq] at h1
   exact ⟨_, h2, by simp only [sliceV]; rw [if_pos h1]⟩
 · obtain ⟨h1, h2⟩ := asr_iff.1 h
   simp only [Bool.and_eq_true, decide_eq_true_eq] at h1
   exact ⟨_, h2, by simp only [sliceV]; rw [if_pos h1]⟩
 · rename_i rows
   simp only at h
   split at h
   · obtain ⟨h1, h⟩ := asr_iff.1 h
     obtain ⟨h2, h⟩ := asr_iff.1 h
     obtain ⟨h3, h⟩ := asr_iff.1 h
     obtain ⟨h4, h⟩ := asr_iff.1 h
     simp only [Bool.or_eq_true, decide_eq_true_eq] at h1 h2 h3 h4
     exact ⟨_, h, by simp only [sliceV]; rw [if_pos ⟨h1, h2, h3, h4⟩]⟩
   · rename_i m
     obtain ⟨h1, h⟩ := asr_iff.1 h
     obtain ⟨h2, h⟩ := asr_iff.1 h
     obtain ⟨h3, h⟩ := asr_iff.1 h
     obtain ⟨h4, h⟩ := asr_iff.1 h
     obtain ⟨h5, h⟩ := asr_iff.1 h
     obtain ⟨k1, k2⟩ := cbr_iff.1 h
     simp only [Bool.or_eq_true, decide_eq_true_eq] at h1 h2 h3 h4 h5
     by_cases hl : lo.getD 0 = m
     · exact ⟨_, k1 (by simpa using hl), by simp only [sliceV]; rw [if_pos ⟨h1, h2, h3, h4, h5⟩, if_pos hl]⟩
     · exact ⟨_, k2 (by simpa using hl), by simp only [sliceV]; rw [if_pos ⟨h1, h2, h3, h4, h5⟩, if_neg hl]⟩
 · rename_i id lo0 len ext cap
   simp only at h
   split at h
   · rename_i b hb
     obtain ⟨h0, h⟩ := asr_iff.1 h
     split at h
     · obtain ⟨h1, h⟩ := asr_iff.1 h
       obtain ⟨h2, h⟩ := asr_iff.1 h
       obtain ⟨h3, h⟩ := asr_iff.1 h
       simp only [Bool.or_eq_true, decide_eq_true_eq] at h1 h2 h3
       exact ⟨_, h, by simp only [sliceV, hb, h0, Bool.true_eq_false, if_false]; rw [if_pos ⟨h1, h2, h3⟩]⟩
     · obtain ⟨h1, h⟩ := asr_iff.1 h
       obtain ⟨h2, h⟩ := asr_iff.1 h
       obtain ⟨h3, h⟩ := asr_iff.1 h
       obtain ⟨h4, h⟩ := asr_iff.1 h
       simp only [Bool.or_eq_true, decide_eq_true_eq] at h1 h2 h3 h4
       exact ⟨_, h, by simp only [sliceV, hb, h0, Bool.true_eq_false, if_false]; rw [if_pos ⟨h1, h2, h3, h4⟩]⟩
   · exact h.elim
 · exact h.elim
theorem WRow_ok {sh : Sh} {rows : List PV} {i : Nat} {K : PV → Prop} (h : WRow sh rows i K) : ∃ r, K r ∧ rows[i]? = some r := by
 have key : asr (decide (i < rows.length)) (asr (conf sh (rows.getD i .nils)) (K (expl sh (rows.getD i .nils)))) → ∃ r, K r ∧ rows[i]? = some r := by
   intro h
   obtain ⟨h1, h⟩ := asr_iff.1 h
   obtain ⟨h2, h⟩ := asr_iff.1 h
   have hi : i < rows.length := by simpa using h1
   rw [conf_expl _ _ h2] at h
   refine ⟨_, h, ?_⟩
   rw [List.getElem?_eq_getElem hi, List.getD_eq_getElem?_getD, List.getElem?_eq_getElem hi]; rfl
 unfold WRow at h
 split at h
 · split at h
   · rename_i r hr; exact ⟨r, h, hr⟩
   · exact h.elim
 · exact key h
theorem WOp_ok0 {a : An} {o : AOp} (hc : isCall o = false) (h : WOp E callK a F H o K) : OpGood0 E F H o K := by
 cases o
 case pick c x y =>
   simp only [WOp] at h
   split at h
   · rename_i t ht
     obtain ⟨h1, h2⟩ := cbr_iff.1 h
     cases t with
     | true =>
       have h := h1 rfl
       split at h
       · rename_i p hp; exact ⟨⟨some (.v p), none, H⟩, h, 0, fun m _ => by simp only [opOut, ht, hp]; rfl⟩
       · exact h.elim
     | false =>
       have h := h2 rfl
       split at h
       · rename_i p hp; exact ⟨⟨some (.v p), none, H⟩, h, 0, fun m _ => by simp only [opOut, ht, hp]; rfl⟩
       · exact h.elim
   · exact h.elim
 case bin op x y =>
   simp only [WOp] at h
   split at h
   · rename_i k p k' q hx hy
     obtain ⟨r, hk, hr⟩ := WBin_ok h
     exact ⟨⟨some (.v r), none, H⟩, hk, 0, fun m _ => by simp only [opOut, hx, hy, hr]; rfl⟩
   · exact h.elim
 case eqN neg x =>
   simp only [WOp] at h
   split at h
   · rename_i hx
     exact ⟨⟨some (.v (.bool (bif neg then false else true))), none, H⟩, h, 0, fun m _ => by simp only [opOut, hx]; cases neg <;> rfl⟩
   · rename_i b hx
     exact ⟨⟨some (.v (.bool (bif neg then !b else b))), none, H⟩, h, 0, fun m _ => by simp only [opOut, hx]; cases neg <;> rfl⟩
   · rename_i rows hx
     obtain ⟨h1, h⟩ := asr_iff.1 h
     cases rows with
     | nil => simp at h1
     | cons q l => exact ⟨⟨some (.v (.bool neg)), none, H⟩, h, 0, fun m _ => by simp only [opOut, hx]; cases neg <;> rfl⟩
   · rename_i hx
     exact ⟨⟨some (.v (.bool neg)), none, H⟩, h, 0, fun m _ => by simp only [opOut, hx]; cases neg <;> rfl⟩
   · exact h.elim
 case load agg sz x =>
   simp only [WOp] at h
   split at h
   · rename_i id ext i off hx
     split at h
     · rename_i b hb
       obtain ⟨h1, h⟩ := asr_iff.1 h
       obtain ⟨row, h, hr⟩ := WRow_ok h
       split at h
       · rename_i p hp
         exact ⟨⟨some (.v p), none, H⟩, h, 0, fun m _ => by simp only [opOut, hx, hb]; rw [if_pos (by simpa using h1)]; simp only [hr, hp]; rfl⟩
       · exact h.elim
     · exact h.elim
   · exact def_good rfl h
 case store sz x y =>
   simp only [WOp] at h
   split at h
   · rename_i id ext i off hx
     split at h
     · rename_i p hp
       split at h
       · rename_i b0 hb0
         obtain ⟨q, H', h, hq⟩ := WPurIf_ok h
         split at h
         · rename_i b hb
           obtain ⟨h1, h⟩ := asr_iff.1 h
           obtain ⟨h2, h⟩ := asr_iff.1 h
           obtain ⟨row, h, hr⟩ := WRow_ok h
           split at h
           · rename_i row' hrow
             refine ⟨⟨none, none, H'.set id { b with rows := b.rows.set i row' }⟩, h, 0, fun m _ => ?_⟩
             have e1 : b.rows.length = ext := by simpa using h1
             have e2 : b.fz = false := by simpa using h2
             simp only [opOut, hp, hx, hb0, hq, hb, hr, hrow]
             rw [if_pos ⟨e1, e2⟩]
           · exact h.elim
         · exact h.elim
       · exact h.elim
     · exact h.elim
   · exact def_good rfl h
 case iad esz x i =>
   simp only [WOp] at h
   split at h
   · rename_i rows n hx hi
     obtain ⟨h1, h⟩ := asr_iff.1 h
     obtain ⟨h2, h⟩ := asr_iff.1 h
     obtain ⟨h3, h⟩ := asr_iff.1 h
     obtain ⟨h4, h⟩ := asr_iff.1 h
     simp only [decide_eq_true_eq] at h1 h2
     rw [conf_expl _ _ h3] at h h4
     have hlt : n.toNat < rows.length := by omega
     have e : rows[n.toNat]? = some (rows.getD n.toNat .nils) := by
       rw [List.getElem?_eq_getElem hlt, List.getD_eq_getElem?_getD, List.getElem?_eq_getElem hlt]; rfl
     refine ⟨⟨_, _, _⟩, h, 0, fun m _ => ?_⟩
     simp only [opOut, hx, hi]
     rw [if_pos ⟨h1, h2⟩]
     simp only [e]
     rw [if_pos (by simpa using h4)]
     rfl
   · rename_i id lo len ext cap n hx hi
     split at h
     · rename_i b hb
       obtain ⟨h1, h⟩ := asr_iff.1 h
       obtain ⟨h2, h⟩ := asr_iff.1 h
       obtain ⟨h3, h⟩ := asr_iff.1 h
       simp only [decide_eq_true_eq] at h1 h2 h3
       refine ⟨⟨_, _, _⟩, h, 0, fun m _ => ?_⟩
       simp only [opOut, hx, hi]
       rw [if_pos ⟨h1, h2⟩]
       simp only [hb]
       rw [if_pos h3]
       rfl
     · exact h.elim
   · rename_i id ext r off mm e j hx hi
     obtain ⟨h1, h⟩ := asr_iff.1 h
     have h1 : e = esz := Nat.eq_of_beq_eq_true h1
     subst h1
     obtain ⟨k, h', rfl, hk⟩ := WSplit_ok mm (Nat.le_refl _) h
     clear h
     refine ⟨⟨_, _, _⟩, h', 0, fun m _ => ?_⟩
     simp only [opOut, hx, hi]
     rw [if_pos ⟨by omega, by omega, by trivial⟩]
     simp [outV]
   · exact h.elim
 case iadA n esz x i =>
   simp only [WOp] at h
   split at h
   · rename_i s o j hx hi
     obtain ⟨k, h', rfl, hk⟩ := WSplit_ok n (Nat.le_refl _) h
     clear h
     refine ⟨⟨_, _, _⟩, h', 0, fun m _ => ?_⟩
     simp only [opOut, hx, hi]
     rw [if_pos ⟨by omega, by omega⟩]
     simp
   · rename_i id e r o j hx hi
     obtain ⟨k, h', rfl, hk⟩ := WSplit_ok n (Nat.le_refl _) h
     clear h
     refine ⟨⟨_, _, _⟩, h', 0, fun m _ => ?_⟩
     simp only [opOut, hx, hi]
     rw [if_pos ⟨by omega, by omega⟩]
     simp [outV]
   · rename_i rows r o j hx hi
     obtain ⟨k, h', rfl, hk⟩ := WSplit_ok n (Nat.le_refl _) h
     clear h
     refine ⟨⟨_, _, _⟩, h', 0, fun m _ => ?_⟩
     simp only [opOut, hx, hi]
     rw [if_pos ⟨by omega, by omega⟩]
     simp [outV]
   · exact h.elim
 case idx agg n esz x i =>
   simp only [WOp] at h
   split at h
   · rename_i cs j hx hi
     split at h
     · obtain ⟨h0, k0⟩ := asr_iff.1 h
       obtain ⟨h1, k1⟩ := asr_iff.1 k0
       obtain ⟨h2, k2⟩ := asr_iff.1 k1
       clear h k0 k1
       simp only [Bool.and_eq_true, decide_eq_true_eq, Bool.not_eq_true'] at h0 h1 h2
       obtain ⟨ha, he, hn, hu⟩ := h0
       have he := Nat.eq_of_beq_eq_true he
       have hn := Nat.eq_of_beq_eq_true hn
       subst ha; subst he
       refine ⟨⟨_, _, _⟩, k2, 0, fun m _ => ?_⟩
       simp only [opOut, hx, hi]
       rw [if_pos ⟨h1, h2⟩]
       have hlt : j.toNat < cs.length := by omega
       have hcell : cs[j.toNat]? = some (.int .u8 (intOfV (cs.getD j.toNat .nils))) := allU8_get cs _ hu hlt
       simp only [partOf, Nat.mul_one, PV.cells, Bool.false_eq_true, if_false, hcell]
       rfl
     obtain ⟨k, h', rfl, hk⟩ := WSplit_ok n (Nat.le_refl _) h
     clear h
     split at h'
     · rename_i p hp
       refine ⟨⟨_, _, _⟩, h', 0, fun m _ => ?_⟩
       simp only [opOut, hx, hi]
       rw [if_pos ⟨by omega, by omega⟩]
       simp only [Int.toNat_natCast, hp]
       rfl
     · exact h'.elim
   · exact h.elim
 case slc esz x lo hi mx =>
   simp only [WOp] at h
   split at h
   · rename_i p l hh m hx hl hhi hm
     split at h
     · exact h.elim
     · rename_i hb
       obtain ⟨r, h, hr⟩ := WSlice_ok h
       refine ⟨⟨_, _, _⟩, h, 0, fun _ _ => ?_⟩
       simp only [opOut, hx, hl, hhi, hm]
       rw [if_neg (by rw [hb]; exact Bool.false_ne_true)]
       simp only [hr]
       rfl
   · exact h.elim
 case mkSl pu esz bytes z l c =>
   simp only [WOp] at h
   split at h
   · rename_i l c hl hc
     obtain ⟨h1, h⟩ := asr_iff.1 h
     obtain ⟨h2, h⟩ := asr_iff.1 h
     obtain ⟨h3, h⟩ := asr_iff.1 h
     simp only [decide_eq_true_eq] at h1 h2 h3
     refine ⟨⟨_, _, _⟩, h, 0, fun _ _ => ?_⟩
     simp only [opOut, hl, hc]
     rw [if_pos ⟨h1, h2, h3⟩]
     rfl
   · exact h.elim
 case app pu esz bytes s x =>
   simp only [WOp] at h
   split at h
   · rename_i s x hs hx
     obtain ⟨ys, h, hy⟩ := WRows_ok h
     obtain ⟨h1, h⟩ := asr_iff.1 h
     obtain ⟨h2, h⟩ := asr_iff.1 h
     obtain ⟨r, H', h, hr⟩ := WApp_ok hy h1 h2 h
     refine ⟨⟨_, _, _⟩, h, 0, fun _ _ => ?_⟩
     simp only [opOut, hs, hx, hr]
     rfl
   · exact h.elim
 case appZ pu esz bytes z s n =>
   simp only [WOp] at h
   split at h
   · rename_i k hs hk
     obtain ⟨h1, h⟩ := asr_iff.1 h
     have h1 : 0 ≤ k := by simpa using h1
     obtain ⟨ha, hb⟩ := cbr_iff.1 h
     cases h0 : decide (k.toNat = 0) with
     | true =>
       refine ⟨⟨_, _, _⟩, ha h0, 0, fun _ _ => ?_⟩
       have h0 : k.toNat = 0 := by simpa using h0
       simp only [opOut, hs, hk, appZ]
       rw [if_pos h1, if_pos h0]
       rfl
     | false =>
       obtain ⟨r, H', h2, hr⟩ := WFresh_ok (hb h0)
       refine ⟨⟨_, _, _⟩, h2, 0, fun _ _ => ?_⟩
       have h0 : ¬ k.toNat = 0 := by simpa using h0
       simp only [opOut, hs, hk, appZ]
       rw [if_pos h1, if_neg h0, hr]
       rfl
   · exact h.elim
 case clr pu esz z x =>
   simp only [WOp] at h
   split at h
   · rename_i hx
     exact ⟨⟨_, _, _⟩, h, 0, fun _ _ => by simp only [opOut, hx, clrV]; rfl⟩
   · rename_i hx
     exact ⟨⟨_, _, _⟩, h, 0, fun _ _ => by simp only [opOut, hx, clrV]; rfl⟩
   · rename_i hx
     exact ⟨⟨_, _, _⟩, h, 0, fun _ _ => by simp only [opOut, hx, clrV]; rfl⟩
   · rename_i id lo len ext cap hx
     split at h
     · rename_i b hb
       obtain ⟨ha, hb2⟩ := cbr_iff.1 h
       cases len with
       | zero => exact ⟨⟨_, _, _⟩, ha rfl, 0, fun _ _ => by simp only [opOut, hx, clrV]; rfl⟩
       | succ len =>
         have h := hb2 (by simp)
         obtain ⟨h1, h⟩ := asr_iff.1 h
         obtain ⟨h2, h⟩ := asr_iff.1 h
         obtain ⟨h3, h⟩ := asr_iff.1 h
         obtain ⟨h4, h⟩ := asr_iff.1 h
         obtain ⟨h5, h⟩ := asr_iff.1 h
         simp only [decide_eq_true_eq, Bool.not_eq_true', beq_iff_eq] at h1 h2 h3 h4
         have h5 := Nat.eq_of_beq_eq_true h5
         refine ⟨⟨_, _, _⟩, h, 0, fun _ _ => ?_⟩
         simp only [opOut, hx, clrV, hb]
         rw [if_pos ⟨h1, h2, h3, h4, h5⟩]
         rfl
     · exact h.elim
   · exact h.elim
 case boxH pu esz x =>
   simp only [WOp] at h
   split at h
   · rename_i p hp
     obtain ⟨q, H', h, hq⟩ := WPurIf_ok h
     obtain ⟨h1, h⟩ := asr_iff.1 h
     simp only [Bool.and_eq_true] at h1
     refine ⟨⟨_, _, _⟩, h, 0, fun _ _ => ?_⟩
     simp only [opOut, hp, hq]
     rw [if_pos ⟨Nat.eq_of_beq_eq_true h1.1, h1.2⟩]
   · exact h.elim
 case buildSl pu esz z len parts =>
   simp only [WOp] at h
   split at h
   · exact ⟨⟨_, _, _⟩, h, 0, fun _ _ => by simp only [opOut, if_true]; rfl⟩
   · obtain ⟨rows, H', h, e⟩ := WFill_ok _ _ _ _ h
     refine ⟨⟨_, _, _⟩, h, 0, fun _ _ => ?_⟩
     simp only [opOut, e]
     rfl
 case buildN pu esz z len parts =>
   simp only [WOp] at h
   split at h
   · exact ⟨⟨_, _, _⟩, h, 0, fun _ _ => by simp only [opOut, if_true]; rfl⟩
   · obtain ⟨rows, H', h, e⟩ := WFill_ok _ _ _ _ h
     refine ⟨⟨_, _, _⟩, h, 0, fun _ _ => ?_⟩
     simp only [opOut, e]
     rfl
 case buildD esz z len parts =>
   simp only [WOp] at h
   split at h
   · exact ⟨⟨_, _, _⟩, h, 0, fun _ _ => by simp only [opOut, if_true]; rfl⟩
   · obtain ⟨rows, H', h, e⟩ := WFill_ok _ _ _ _ h
     refine ⟨⟨_, _, _⟩, h, 0, fun _ _ => ?_⟩
     simp only [opOut, e]
     rfl
 case mvD x =>
   simp only [WOp] at h
   split at h
   · rename_i p hp
     obtain ⟨y, H', h, e⟩ := WPur1_ok h
     split at h
     · exact ⟨⟨_, _, _⟩, h, 0, fun _ _ => by simp only [opOut, hp, e]; rfl⟩
     · exact h.elim
   · exact h.elim
 case call f args => simp [isCall] at hc
 all_goals exact def_good rfl h
theorem WOp_ok {P : EP} (hP : Sub P E) (hG : Good P callK) {a : An} {o : AOp} (h : WOp E callK a F H o K) : OpGood P F H o K := by
 cases hc : isCall o with
 | false =>
   obtain ⟨out, hk, m0, hm⟩ := WOp_ok0 hc h
   refine ⟨out, hk, 0, fun n e m _ hp _ => ?_⟩
   have hl := hP n e hp
   unfold Like at hl
   rw [hl, opOut_like hc _ (inline E m0)]
   exact hm m0 (Nat.le_refl _)
 | true =>
   cases o with
   | call f args =>
     simp only [WOp] at h
     split at h
     · rename_i g vs hg hvs
       obtain ⟨r, H', h, m0, hm⟩ := hG _ _ _ _ h
       refine ⟨⟨_, _, _⟩, h, m0, fun n e m hn hp hle => ?_⟩
       have hl := hP n e hp
       have e1 : evV e F f = some g := by unfold Like at hl; rw [hl, evV_like]; exact hg
       have e2 : evs e F args = some vs := by unfold Like at hl; rw [hl, evs_like]; exact hvs
       simp only [opOut, e1, e2, hm n e m hn hp hle]
       rfl
     · exact h.elim
   | _ => simp [isCall] at hc
theorem frep_eq : ∀ (F : Frm) (s : Nat) (x : FV), fget F s = some x → frep F s x = F
 | [], _, _, h => by simp [fget] at h
 | (k, y) :: r, s, x, h => by
   simp only [fget] at h
   simp only [frep]
   by_cases hk : k = s
   · subst hk
     simp only [if_true, Option.some.injEq] at h
     subst h
     simp
   · rw [if_neg hk] at h
     have : Nat.beq k s = false := by
       cases e : Nat.beq k s with
       | true => exact absurd (Nat.eq_of_beq_eq_true e) hk
       | false => rfl
     rw [this, frep_eq r s x h]
     rfl
theorem fref_eq {c : Opd} {b : Bool} (h : evV E F c = some (.bool b)) : fref F c b = F := by
 cases c with
 | t s =>
   simp only [evV, ev] at h
   simp only [fref]
   apply frep_eq
   cases e : fget F s with
   | none => simp [e] at h
   | some fv => cases fv <;> simp [e] at h; rw [h]
 | _ => rfl
theorem WGuard_ok {g : Option (Nat × Bool)} {yes no : Frm → Prop} (h : WGuard F g yes no) : (guardOk F g = some true ∧ yes F) ∨ (guardOk F g = some false ∧ no F) := by
 unfold WGuard at h
 split at h
 · exact .inl ⟨rfl, h⟩
 · rename_i s want
   split at h
   · rename_i b hb
     have e : guardOk F (some (s, want)) = some (b == want) := by simp only [guardOk, hb]
     split at h
     · cases b with
       | true => have h : yes (frep F s (.v (.bool true))) := h; rw [frep_eq _ _ _ hb] at h; exact .inl ⟨by rw [e]; rfl, h⟩
       | false => have h : no (frep F s (.v (.bool false))) := h; rw [frep_eq _ _ _ hb] at h; exact .inr ⟨by rw [e]; rfl, h⟩
     · cases b with
       | true => have h : no (frep F s (.v (.bool true))) := h; rw [frep_eq _ _ _ hb] at h; exact .inr ⟨by rw [e]; rfl, h⟩
       | false => have h : yes (frep F s (.v (.bool false))) := h; rw [frep_eq _ _ _ hb] at h; exact .inl ⟨by rw [e]; rfl, h⟩
   · rename_i hb
     exact .inr ⟨by simp only [guardOk, hb], h⟩
   · exact h.elim
theorem WOps_ok {P : EP} (hP : Sub P E) (hG : Good P callK) {an : List An} : ∀ (l : List AOper) (i : Nat) (F : Frm) (H : Hp) (K : Frm → Hp → Prop), WOps E callK an l i F H K →
   ∃ F' H', K F' H' ∧ ∃ m0, ∀ n e m, m0 ≤ n → P n e → m0 ≤ m → runOps e (inline e m) l F H = some (F', H')
 | [], i, F, H, K, h => ⟨F, H, h, 0, fun _ _ _ _ _ _ => rfl⟩
 | o :: r, i, F, H, K, h => by
   simp only [WOps] at h
   rcases WGuard_ok h with ⟨hg, h⟩ | ⟨hg, h⟩
   · obtain ⟨out, h, m0, hm⟩ := WOp_ok hP hG h
     split at h
     · exact h.elim
     · rename_i F' hF'
       rw [frc_eq] at h
       obtain ⟨F2, H2, hk, m1, hm1⟩ := WOps_ok hP hG r (i + 1) F' out.h K h
       refine ⟨F2, H2, hk, max m0 m1, fun n e m hn hp hle => ?_⟩
       have e0 : stepOp e (inline e m) F H o = some (F', out.h) := by
         simp only [stepOp, hg, hm n e m (by omega) hp (by omega), hF', Option.map]
       simp only [runOps, e0]
       exact hm1 n e m (by omega) hp (by omega)
   · obtain ⟨F2, H2, hk, m1, hm1⟩ := WOps_ok hP hG r (i + 1) (skipDst F o.dst) H K h
     refine ⟨F2, H2, hk, m1, fun n e m hn hp hle => ?_⟩
     have e0 : stepOp e (inline e m) F H o = some (skipDst F o.dst, H) := by
       simp only [stepOp, hg]
       cases o.dst <;> rfl
     simp only [runOps, e0]
     exact hm1 n e m hn hp hle
structure Cov (p q : FP) : Prop where
 rd : q.rd = p.rd
 wr : q.wr = p.wr
 h : p.all = true ∨ ((∀ x, x ∈ q.hr → x ∈ p.hr) ∧ (∀ x, x ∈ q.hw → x ∈ p.hw) ∧ (q.push = true → p.push = true) ∧ q.all = false)
theorem Cov.tight (p : FP) (H H1 : Hp) : Cov p (p.tight H H1) := by
 unfold FP.tight
 cases h : p.all with
 | true => exact ⟨rfl, rfl, .inl h⟩
 | false => exact ⟨rfl, rfl, .inr ⟨fun _ h => h, fun _ h => h, fun h => h, h⟩⟩
def TightL : List FP → List FP → Prop
 | [], [] => True
 | p :: r, q :: s => Cov p q ∧ TightL r s
 | _, _ => False
theorem TightL.get : ∀ (l l' : List FP), TightL l l' → ∀ (i : Nat) (p : FP), l[i]? = some p → ∃ q : FP, l'[i]? = some q ∧ Cov p q
 | [], _, _, i, p, e => by simp at e
 | p :: r, [], h, _, _, _ => h.elim
 | p :: r, q :: s, h, i, x, e => by
   obtain ⟨h1, h2⟩ := h
   cases i with
   | zero => simp at e; subst e; exact ⟨q, rfl, h1⟩
   | succ i => simp at e; simpa using TightL.get r s h2 i x e
theorem meets_nil : ∀ l : List Nat, meets l [] = false
 | [] => rfl
 | x :: r => by simp only [meets, meets_nil r]; rfl
theorem meets_iff : ∀ (l m : List Nat), meets l m = true ↔ ∃ x, x ∈ l ∧ x ∈ m
 | [], m => by simp [meets]
 | y :: r, m => by
   simp only [meets, Bool.or_eq_true, meets_iff r m, List.elem_eq_mem, decide_eq_true_eq, List.mem_cons]
   constructor
   · rintro (h | ⟨x, h1, h2⟩)
     · exact ⟨y, .inl rfl, h⟩
     · exact ⟨x, .inr h1, h2⟩
   · rintro ⟨x, rfl | h1, h2⟩
     · exact .inl h2
     · exact .inr ⟨x, h1, h2⟩
theorem meets_sub {a b a' b' : List Nat} (h : meets a b = false) (ha : ∀ x, x ∈ a' → x ∈ a) (hb : ∀ x, x ∈ b' → x ∈ b) : meets a' b' = false := by
 cases e : meets a' b' with
 | false => rfl
 | true =>
   obtain ⟨x, h1, h2⟩ := (meets_iff _ _).1 e
   have : meets a b = true := (meets_iff _ _).2 ⟨x, ha x h1, hb x h2⟩
   rw [h] at this
   cases this
theorem nil_of_sub {a : List Nat} (h : ∀ x, x ∈ a → x ∈ ([] : List Nat)) : a = [] := by
 cases a with
 | nil => rfl
 | cons x r => exact absurd (h x List.mem_cons_self) (by simp)
theorem clash_cov {p q p' q' : FP} (h : clash p q = false) (hp : Cov p p') (hq : Cov q q') : clash p' q' = false := by
 have hpx : ∀ {x x' : FP}, x.heapy = false → Cov x x' → x'.push = false ∧ x'.all = false ∧ x'.hr = [] ∧ x'.hw = [] := by
   intro x x' hx hc
   simp only [FP.heapy, Bool.or_eq_false_iff, Bool.not_eq_false', List.isEmpty_iff] at hx
   obtain ⟨⟨⟨h1, h2⟩, h3⟩, h4⟩ := hx
   rcases hc.h with h | ⟨k1, k2, k3, k4⟩
   · rw [h2] at h; cases h
   · rw [h3] at k1
     rw [h4] at k2
     refine ⟨?_, k4, nil_of_sub k1, nil_of_sub k2⟩
     cases e : x'.push with
     | false => rfl
     | true => rw [k3 e] at h1; cases h1
 simp only [clash, Bool.or_eq_false_iff] at h
 obtain ⟨⟨⟨⟨⟨⟨⟨⟨A, B⟩, C⟩, D⟩, E⟩, G⟩, I⟩, J⟩, K⟩ := h
 have A' : meets p'.wr q'.rd = false := by rw [hp.wr, hq.rd]; exact A
 have B' : meets p'.wr q'.wr = false := by rw [hp.wr, hq.wr]; exact B
 have C' : meets q'.wr p'.rd = false := by rw [hp.rd, hq.wr]; exact C
 cases ea : p.all with
 | true =>
   rw [ea, Bool.true_and] at D
   obtain ⟨h1, h2, h3, h4⟩ := hpx D hq
   simp [clash, A', B', C', h1, h2, h3, h4, meets_nil, meets, FP.heapy]
 | false =>
   cases eb : q.all with
   | true =>
     rw [eb, Bool.true_and] at E
     obtain ⟨h1, h2, h3, h4⟩ := hpx E hp
     simp [clash, A', B', C', h1, h2, h3, h4, meets_nil, meets, FP.heapy]
   | false =>
     rcases hp.h with h | ⟨k1, k2, k3, k4⟩
     · rw [ea] at h; cases h
     rcases hq.h with h | ⟨l1, l2, l3, l4⟩
     · rw [eb] at h; cases h
     have G' : (p'.push && q'.push) = false := by
       cases e1 : p'.push with
       | false => rfl
       | true =>
         cases e2 : q'.push with
         | false => rfl
         | true => rw [k3 e1, l3 e2] at G; cases G
     simp only [clash, A', B', C', k4, l4, Bool.false_and, G', meets_sub I k2 l1, meets_sub J k2 l2, meets_sub K l2 k1, Bool.or_self]
theorem apart_tight {l l' : List FP} (ht : TightL l l') : ∀ (pairs : List (Nat × Nat)), apart l pairs = true → apart l' pairs = true
 | [], _ => rfl
 | (i, j) :: r, h => by
   simp only [apart, Bool.and_eq_true] at h ⊢
   refine ⟨?_, apart_tight ht r h.2⟩
   have h1 := h.1
   split at h1
   · rename_i p q e1 e2
     obtain ⟨p', k1, c1⟩ := TightL.get l l' ht i p e1
     obtain ⟨q', k2, c2⟩ := TightL.get l l' ht j q e2
     rw [k1, k2]
     simp only [Bool.not_eq_true'] at h1 ⊢
     exact clash_cov h1 c1 c2
   · cases h1
theorem locOf_like {E e : Env} (h : Like E e) (f : PV) (args : List PV) : locOf e f args = locOf E f args := by
 unfold Like at h
 rw [h]
 rfl
theorem purify_chg {p q : PV} {H H1 : Hp} (h : purify H p = some (q, H1)) : EffI (idsV p) H H1 H H1 := by
 obtain ⟨H1', e, k⟩ := purify_heap (H' := H) (fun _ _ => rfl) h
 rw [h] at e
 cases e
 exact k
theorem purifyAll_chg : ∀ (l ps : List PV) (H H1 : Hp), purifyAll H l = some (ps, H1) → H1.length = H.length ∧ ∀ id, id ∉ idsA l → H1[id]? = H[id]?
 | [], ps, H, H1, h => by
   simp only [purifyAll, Option.some.injEq, Prod.mk.injEq] at h
   rw [← h.2]
   exact ⟨rfl, fun _ _ => rfl⟩
 | x :: r, ps, H, H1, h => by
   simp only [purifyAll] at h
   split at h
   · rename_i y H2 hy
     split at h
     · rename_i ys H3 hys
       simp only [Option.some.injEq, Prod.mk.injEq] at h
       obtain ⟨_, rfl⟩ := h
       obtain ⟨l1, o1⟩ := purifyAll_chg r ys H2 _ hys
       have k := purify_chg hy
       refine ⟨l1.trans k.len.1, fun id hid => ?_⟩
       simp only [idsA, List.mem_append, not_or] at hid
       rw [o1 id hid.2, (k.out id hid.1).1]
     · cases h
   · cases h
theorem locRun_chg {call : Nat → List PV → Hp → Option (PV × Hp)} {x : LocC} {H H1 : Hp} {r : PV} (h : locRun call x H = some (r, H1)) : ∀ id, id ∈ chgH 0 H H1 → id ∈ x.id :: idsA (x.all.set x.j (.int .i64 0)) := by
 intro id hm
 unfold locRun at h
 split at h
 · rename_i az H' hp
   split at h
   · rename_i b hb
     split at h
     · split at h
       · rename_i q rows hq
         simp only [Option.some.injEq, Prod.mk.injEq] at h
         obtain ⟨_, rfl⟩ := h
         obtain ⟨l1, o1⟩ := purifyAll_chg _ _ _ _ hp
         by_cases hi : id = x.id
         · rw [hi]; exact List.mem_cons_self
         · by_cases hj : id ∈ idsA (x.all.set x.j (.int .i64 0))
           · exact List.mem_cons_of_mem _ hj
           · refine absurd hm ?_
             have := chgH_same 0 H (H'.set x.id { b with rows := rows }) (by simp [l1]) id (by
               rw [List.getElem?_set_ne (fun e => hi e.symm), o1 id hj])
             simpa using this
       · cases h
     · cases h
   · cases h
 · cases h
theorem chg_of {H H1 : Hp} {l : List Nat} (h1 : H1.length = H.length) (h2 : ∀ id, id ∉ l → H1[id]? = H[id]?) : ∀ id, id ∈ chgH 0 H H1 → id ∈ l := by
 intro id hm
 by_cases hj : id ∈ l
 · exact hj
 · refine absurd hm ?_
   have := chgH_same 0 H H1 h1 id (h2 id hj)
   simpa using this
theorem quiet_chg {e : Env} {call : Nat → List PV → Hp → Option (PV × Hp)} {n : Nat} {first captured vs : List PV} {H H1 : Hp} {r : PV} (hq : e.qui n = true) (h : callV0 e call (.fn (.func n) first captured) vs H = some (r, H1)) : ∀ id, id ∈ chgH 0 H H1 → id ∈ idsA (first ++ vs ++ captured) := by
 simp only [callV0, hq, if_true] at h
 split at h
 · split at h
   · split at h
     · split at h
       · cases h
         exact chg_of rfl fun _ _ => rfl
       · cases h
     · cases h
   · cases h
 · split at h
   · rename_i x hx
     cases h
     split at hx
     · rename_i az H' hp
       obtain ⟨l1, o1⟩ := purifyAll_chg _ _ _ _ hp
       split at hx
       · split at hx
         · cases hx
           exact chg_of rfl fun _ _ => rfl
         · cases hx
           exact chg_of l1 o1
       · cases hx
     · cases hx
   · cases h
theorem fpW_cov {e : Env} (hl : Like E e) {call : Nat → List PV → Hp → Option (PV × Hp)} {F : Frm} {H : Hp} {o : AOp} {out : Out} (h : opOut e call F H o = some out) (a b _ _ : List Nat) :
   Cov ⟨a ++ (fpOpW E F H o).rd, b ++ (fpOpW E F H o).wr, (fpOpW E F H o).hr, (fpOpW E F H o).hw, (fpOpW E F H o).push, (fpOpW E F H o).all⟩
     ((⟨a ++ (fpOp E F H o).rd, b ++ (fpOp E F H o).wr, (fpOp E F H o).hr, (fpOp E F H o).hw, (fpOp E F H o).push, (fpOp E F H o).all⟩ : FP).tight H out.h) := by
 unfold fpOpW
 split
 · rename_i f az
   cases hq : quietCall E F f az with
   | true => exact Cov.tight _ _ _
   | false =>
   rw [cond_false]
   split
   · rename_i l hli
     unfold locIds at hli
     split at hli
     · rename_i g vs hg hvs
       have hg' : evV e F f = some g := by unfold Like at hl; rw [hl, evV_like]; exact hg
       have hv' : evs e F az = some vs := by unfold Like at hl; rw [hl, evs_like]; exact hvs
       simp only [opOut, hg', hv'] at h
       split at h
       · rename_i r H1 hr
         cases h
         have key : ∀ id, id ∈ chgH 0 H H1 → id ∈ l := by
           split at hli
           · rename_i x hx
             cases hli
             simp only [callV, (locOf_like hl g vs).trans hx] at hr
             exact locRun_chg hr
           · rename_i hx
             simp only [callV, (locOf_like hl g vs).trans hx] at hr
             split at hli
             · rename_i n first captured
               cases hqu : E.qui n with
               | false => rw [hqu] at hli; cases hli
               | true =>
                 rw [hqu] at hli
                 cases hli
                 have : e.qui n = true := by unfold Like at hl; rw [hl]; exact hqu
                 exact quiet_chg this hr
             · cases hli
         simp only [fpOp, hq, Bool.not_false, FP.tight, if_true]
         exact ⟨rfl, rfl, .inr ⟨fun _ h => h, key, fun h => h, rfl⟩⟩
       · cases h
     · cases hli
   · exact Cov.tight _ _ _
 · exact Cov.tight _ _ _
theorem WFps_ok {P : EP} (hP : Sub P E) (hG : Good P callK) {an : List An} {F0 : Frm} {l0 : List AOper} {pairs : List (Nat × Nat)} : ∀ (l : List AOper) (i : Nat) (F : Frm) (H : Hp) (ps : List FP) (K : Frm → Hp → Prop), WFps E callK an F0 l0 pairs l i F H ps K →
   ∃ F' H' qs, K F' H' ∧ apart (ps.reverse ++ qs) pairs = true ∧ boxesOk F0 l0 l0 = true ∧ ∃ m0, ∀ n e m, m0 ≤ n → P n e → m0 ≤ m → ∃ qt, TightL qs qt ∧ runFps e (inline e m) l F H = some (F', H', qt)
 | [], i, F, H, ps, K, h => by
   simp only [WFps] at h
   obtain ⟨h1, h⟩ := asr_iff.1 h
   simp only [Bool.and_eq_true] at h1
   exact ⟨F, H, [], h, by simpa using h1.1, h1.2, 0, fun _ _ _ _ _ _ => ⟨[], trivial, rfl⟩⟩
 | o :: r, i, F, H, ps, K, h => by
   simp only [WFps] at h
   have hfp : ∀ n e, P n e → ∀ F H, fpOper e F H o = fpOper E F H o := by
     intro n e hp F H
     have hl := hP n e hp
     unfold Like at hl
     rw [hl]
     simp only [fpOper, fpOp_like]
   rcases WGuard_ok h with ⟨hg, h⟩ | ⟨hg, h⟩
   · obtain ⟨out, h, m0, hm⟩ := WOp_ok hP hG h
     split at h
     · exact h.elim
     · rename_i F' hF'
       rw [frc_eq] at h
       obtain ⟨F2, H2, qs, hk, ha, hb, m1, hm1⟩ := WFps_ok hP hG r (i + 1) F' out.h (fpYes E F H o :: ps) K h
       refine ⟨F2, H2, fpYes E F H o :: qs, hk, by simpa using ha, hb, max m0 m1, fun n e m hn hp hle => ?_⟩
       obtain ⟨qt, ht, hq⟩ := hm1 n e m (by omega) hp (by omega)
       have ho := hm n e m (by omega) hp (by omega)
       have e0 : stepU e (inline e m) o (F, H) = some (F', out.h) := by
         simp only [stepU, hg, ho, hF', Option.map]
       refine ⟨(fpOper E F H o).tight H out.h :: qt, ⟨?_, ht⟩, ?_⟩
       · simp only [fpOper, hg, fpYes]
         exact fpW_cov (hP n e hp) ho _ _ [] []
       · simp only [runFps, e0, hq, hfp n e hp]
   · obtain ⟨F2, H2, qs, hk, ha, hb, m1, hm1⟩ := WFps_ok hP hG r (i + 1) (skipDst F o.dst) H (fpNo o :: ps) K h
     refine ⟨F2, H2, fpNo o :: qs, hk, by simpa using ha, hb, m1, fun n e m hn hp hle => ?_⟩
     obtain ⟨qt, ht, hq⟩ := hm1 n e m hn hp hle
     have e0 : stepU e (inline e m) o (F, H) = some (skipDst F o.dst, H) := by
       simp only [stepU, hg]
       cases o.dst <;> rfl
     have e2 : fpOper E F H o = fpNo o := by simp only [fpOper, hg, fpNo]
     refine ⟨(fpNo o).tight H H :: qt, ⟨Cov.tight _ _ _, ht⟩, ?_⟩
     simp only [runFps, e0, hq, hfp n e hp, e2]
def CodeT (P : EP) (c : ACode) (F : Frm) (H : Hp) (Q : Ex → Frm → Hp → Prop) : Prop :=
 ∃ x F' H', Q x F' H' ∧ ∃ m0, ∀ n e m, m0 ≤ n → P n e → m0 ≤ m → exec e m c F H = some (x, F', H')
def LoopT (P : EP) (c : TCode) (F : Frm) (H : Hp) (Q : Ex → Frm → Hp → Prop) : Prop := CodeT P (erase c) F H Q
def flatC : TCode → Bool
 | .seq a b | .cond _ a b => flatC a && flatC b
 | .block _ b => flatC b
 | .loop _ b => flatC b
 | .loopG _ b => flatC b
 | .join _ b => flatC b
 | .rangeF _ _ _ _ _ _ _ => false
 | _ => true
def LpOk (P : EP) (E : Env) (lp : LP) (G : Frm) : TCode → Prop
 | .seq a b => LpOk P E lp G a ∧ LpOk P E lp G b
 | .cond _ a b => LpOk P E lp G a ∧ LpOk P E lp G b
 | .block _ b => LpOk P E lp G b
 | .loop id b => LpOk P E lp G b ∧ ∀ F H Q, lp id G F H Q → LoopT P (.loop id b) F H Q
 | .loopG id b => LpOk P E lp G b ∧ ∀ F H Q, lp id G F H Q → LoopT P (.loopG id b) F H Q
 | .join id b => LpOk P E lp G b ∧ ∀ F H Q, lp id G F H Q → LoopT P (.join id b) F H Q
 | .rangeF _ f np ib ps az bd => (∃ rs, E.fns f = some ⟨np, rs, erase ib⟩ ∧ rs.length = 0) ∧ (flatC ib = true ∧ flatC az = true ∧ flatC bd = true) ∧ (∀ G, LpOk (Rng E G ps (erase az) (erase bd)) E lp G ib) ∧ LpOk (Ats E) E lp [] az ∧ LpOk (Ats E) E lp [] bd
 | _ => True
def loopsOf : TCode → List (Nat × TCode)
 | .seq a b | .cond _ a b => loopsOf a ++ loopsOf b
 | .block _ b => loopsOf b
 | .loop id b => loopsOf b ++ [(id, .loop id b)]
 | .loopG id b => loopsOf b ++ [(id, .loopG id b)]
 | .join id b => loopsOf b ++ [(id, .join id b)]
 | _ => []
theorem LpOk_of {P : EP} {E : Env} {lp : LP} {G : Frm} : ∀ (c : TCode), flatC c = true → (∀ p ∈ loopsOf c, ∀ F H Q, lp p.1 G F H Q → LoopT P p.2 F H Q) → LpOk P E lp G c
 | .skip, _, _ | .ops _ _ _ _, _, _ | .exit _, _, _ | .ret, _, _ | .bad, _, _ | .yret _ _ _ _ _ _ _, _, _ | .cut _, _, _ => trivial
 | .rangeF _ _ _ _ _ _ _, hf, _ => by simp [flatC] at hf
 | .seq a b, hf, h => by
   simp only [flatC, Bool.and_eq_true] at hf
   exact ⟨LpOk_of a hf.1 fun p hp => h p (by simp only [loopsOf, List.mem_append]; exact .inl hp), LpOk_of b hf.2 fun p hp => h p (by simp only [loopsOf, List.mem_append]; exact .inr hp)⟩
 | .cond _ a b, hf, h => by
   simp only [flatC, Bool.and_eq_true] at hf
   exact ⟨LpOk_of a hf.1 fun p hp => h p (by simp only [loopsOf, List.mem_append]; exact .inl hp), LpOk_of b hf.2 fun p hp => h p (by simp only [loopsOf, List.mem_append]; exact .inr hp)⟩
 | .block _ b, hf, h => LpOk_of b hf h
 | .loop id b, hf, h => ⟨LpOk_of b hf fun p hp => h p (by simp only [loopsOf, List.mem_append]; exact .inl hp), h (id, .loop id b) (by simp [loopsOf])⟩
 | .loopG id b, hf, h => ⟨LpOk_of b hf fun p hp => h p (by simp only [loopsOf, List.mem_append]; exact .inl hp), h (id, .loopG id b) (by simp [loopsOf])⟩
 | .join id b, hf, h => ⟨LpOk_of b hf fun p hp => h p (by simp only [loopsOf, List.mem_append]; exact .inl hp), h (id, .join id b) (by simp [loopsOf])⟩
def YOk (P : EP) (E : Env) (yk : YK) : Prop := ∀ vs H K, yk vs H K → ∃ r H', K r H' ∧ ∃ m0, ∀ n e, m0 ≤ n → P n e → e.yl e.yn E.yn vs H = some (r, H')
theorem YOk.no (P : EP) (E : Env) : YOk P E noYK := fun _ _ _ h => h.elim
def RngOk (P : EP) (E : Env) (callK : CK) (c : TCode) : Prop := flatC c = false → Good (Uni E) callK ∧ ∀ n e, P n e → e = E
theorem CodeT.up {P : EP} {c : ACode} {F : Frm} {H : Hp} {Q : Ex → Frm → Hp → Prop} {x : Ex} {F' : Frm} {H' : Hp} {m0 : Nat} (hk : Q x F' H') (h : ∀ n e k, m0 ≤ n → P n e → m0 ≤ k → exec e (k + 1) c F H = some (x, F', H')) : CodeT P c F H Q :=
 ⟨x, F', H', hk, m0 + 1, fun n e m hn hp hm => by
   obtain ⟨k, rfl⟩ : ∃ k, m = k + 1 := ⟨m - 1, by omega⟩
   exact h n e k (by omega) hp (by omega)⟩
theorem WC_ok {lp : LP} : ∀ (c : TCode) (P : EP) (_ : Sub P E) (_ : Good P callK) (_ : RngOk P E callK c) (G : Frm) (yk : YK) (_ : YOk P E yk) (_ : LpOk P E lp G c) (F : Frm) (H : Hp) (Q : Ex → Frm → Hp → Prop), WC E callK lp G yk c F H Q → CodeT P (erase c) F H Q
 | .skip, P, hP, hG, hR, G, yk, hY, _, F, H, Q, h => by
   simp only [WC] at h
   exact CodeT.up (m0 := 0) h fun n e k _ _ _ => by simp only [erase, exec]
 | .exit id, P, hP, hG, hR, G, yk, hY, _, F, H, Q, h => by
   simp only [WC] at h
   exact CodeT.up (m0 := 0) h fun n e k _ _ _ => by simp only [erase, exec]
 | .ret, P, hP, hG, hR, G, yk, hY, _, F, H, Q, h => by
   simp only [WC] at h
   exact CodeT.up (m0 := 0) h fun n e k _ _ _ => by simp only [erase, exec]
 | .bad, P, hP, hG, hR, G, yk, hY, _, F, H, Q, h => by simp only [WC] at h
 | .cut _, P, hP, hG, hR, G, yk, hY, _, F, H, Q, h => by simp only [WC] at h
 | .ops l an ps fg, P, hP, hG, hR, G, yk, hY, _, F, H, Q, h => by
   cases ps with
   | nil =>
     simp only [WC] at h
     obtain ⟨F', H', hk, m0, hm⟩ := WOps_ok hP hG l 0 F H _ h
     rw [frc_eq] at hk
     exact CodeT.up (m0 := m0) hk fun n e k hn hp hle => by simp only [erase, exec, runReg, hm n e k hn hp hle]
   | cons p ps =>
     simp only [WC] at h
     obtain ⟨F', H', qs, hk, ha, hb, m0, hm⟩ := WFps_ok hP hG l 0 _ H [] _ h
     rw [frc_eq] at hk
     refine CodeT.up (m0 := m0) hk fun n e k hn hp hle => ?_
     obtain ⟨qt, ht, hq⟩ := hm n e k hn hp hle
     simp only [erase, exec, runReg, hq]
     rw [if_pos ⟨apart_tight ht _ (by simpa using ha), hb⟩]
 | .seq a b, P, hP, hG, hR, G, yk, hY, hl, F, H, Q, h => by
   simp only [WC] at h
   simp only [LpOk] at hl
   have hRa : RngOk P E callK a := fun hf => hR (by simp only [flatC, hf, Bool.false_and])
   have hRb : RngOk P E callK b := fun hf => hR (by simp only [flatC, hf, Bool.and_false])
   obtain ⟨x, F', H', hk, m0, hm⟩ := WC_ok a P hP hG hRa G yk hY hl.1 F H _ h
   cases x with
   | norm =>
     obtain ⟨x2, F2, H2, hk2, m1, hm1⟩ := WC_ok b P hP hG hRb G yk hY hl.2 F' H' Q hk
     exact CodeT.up (m0 := max m0 m1) hk2 fun n e k hn hp hle => by simp only [erase, exec, hm n e k (by omega) hp (by omega), hm1 n e k (by omega) hp (by omega)]
   | exit i => exact CodeT.up (m0 := m0) hk fun n e k hn hp hle => by simp only [erase, exec, hm n e k hn hp hle]
   | ret => exact CodeT.up (m0 := m0) hk fun n e k hn hp hle => by simp only [erase, exec, hm n e k hn hp hle]
   | brk _ _ => exact CodeT.up (m0 := m0) hk fun n e k hn hp hle => by simp only [erase, exec, hm n e k hn hp hle]
 | .cond c a b, P, hP, hG, hR, G, yk, hY, hl, F, H, Q, h => by
   simp only [WC] at h
   simp only [LpOk] at hl
   have hRa : RngOk P E callK a := fun hf => hR (by simp only [flatC, hf, Bool.false_and])
   have hRb : RngOk P E callK b := fun hf => hR (by simp only [flatC, hf, Bool.and_false])
   split at h
   · rename_i t ht
     have hte : ∀ n e, P n e → evV e F c = some (.bool t) := fun n e hp => by
       have hl := hP n e hp
       unfold Like at hl
       rw [hl, evV_like]; exact ht
     obtain ⟨h1, h2⟩ := cbr_iff.1 h
     cases t with
     | true =>
       obtain ⟨x, F', H', hk, m0, hm⟩ := WC_ok a P hP hG hRa G yk hY hl.1 F H Q (fref_eq ht ▸ h1 rfl)
       exact CodeT.up (m0 := m0) hk fun n e k hn hp hle => by simp only [erase, exec, hte n e hp, hm n e k hn hp hle]
     | false =>
       obtain ⟨x, F', H', hk, m0, hm⟩ := WC_ok b P hP hG hRb G yk hY hl.2 F H Q (fref_eq ht ▸ h2 rfl)
       exact CodeT.up (m0 := m0) hk fun n e k hn hp hle => by simp only [erase, exec, hte n e hp, hm n e k hn hp hle]
   · exact h.elim
 | .block id b, P, hP, hG, hR, G, yk, hY, hl, F, H, Q, h => by
   simp only [WC] at h
   simp only [LpOk] at hl
   have hRb : RngOk P E callK b := fun hf => hR (by simp only [flatC, hf])
   obtain ⟨x, F', H', hk, m0, hm⟩ := WC_ok b P hP hG hRb G yk hY hl F H _ h
   cases x with
   | norm => exact CodeT.up (m0 := m0) hk fun n e k hn hp hle => by simp only [erase, exec, hm n e k hn hp hle]
   | exit i =>
     simp only at hk
     cases hb : Nat.beq i id with
     | true =>
       rw [hb] at hk
       have e := Nat.eq_of_beq_eq_true hb
       subst e
       exact CodeT.up (m0 := m0) (x := .norm) hk fun n e k hn hp hle => by simp only [erase, exec, hm n e k hn hp hle, if_true]
     | false =>
       rw [hb] at hk
       have e : ¬ i = id := fun e => by subst e; rw [Nat.beq_refl] at hb; cases hb
       exact CodeT.up (m0 := m0) (x := .exit i) hk fun n e' k hn hp hle => by simp only [erase, exec, hm n e' k hn hp hle, e, if_false]
   | ret => exact CodeT.up (m0 := m0) hk fun n e k hn hp hle => by simp only [erase, exec, hm n e k hn hp hle]
   | brk _ _ => exact CodeT.up (m0 := m0) hk fun n e k hn hp hle => by simp only [erase, exec, hm n e k hn hp hle]
 | .loop id b, P, hP, hG, hR, G, yk, hY, hl, F, H, Q, h => by
   simp only [WC] at h
   simp only [LpOk] at hl
   exact hl.2 F H Q h
 | .loopG id b, P, hP, hG, hR, G, yk, hY, hl, F, H, Q, h => by
   simp only [WC] at h
   simp only [LpOk] at hl
   exact hl.2 F H Q h
 | .join id b, P, hP, hG, hR, G, yk, hY, hl, F, H, Q, h => by
   simp only [WC] at h
   simp only [LpOk] at hl
   exact hl.2 F H Q h
 | .yret .., P, hP, hG, hR, G, yk, hY, _, F, H, Q, h => by simp only [WC] at h
 | .rangeF .., P, hP, hG, hR, G, yk, hY, _, F, H, Q, h => by simp only [WC] at h
theorem LoopT.intro {id : Nat} {P : EP} (hP : Sub P E) (hG : Good P callK) {lp : LP} {b : TCode} (hf : flatC b = true) {G : Frm} {yk : YK} (hY : YOk P E yk) (hl : LpOk P E lp G b) {Q : Ex → Frm → Hp → Prop} (R : Nat → Frm → Hp → Prop) (h0 : ∀ F H, ¬ R 0 F H)
   (hs : ∀ n F H, R (n + 1) F H → WC E callK lp G yk b F H fun x F' H' => match x with | .norm => R n F' H' | .exit i => Q (.exit i) F' H' | .ret => Q .ret F' H' | .brk k i => Q (.brk k i) F' H') :
   ∀ n F H, R n F H → LoopT P (.loop id b) F H Q
 | 0, F, H, h => (h0 F H h).elim
 | n + 1, F, H, h => by
   obtain ⟨x, F', H', hk, m0, hm⟩ := WC_ok b P hP hG (fun hf' => by rw [hf] at hf'; cases hf') G yk hY hl F H _ (hs n F H h)
   cases x with
   | norm =>
     have hk : R n F' H' := hk
     obtain ⟨x2, F2, H2, hk2, m1, hm1⟩ := LoopT.intro (id := id) hP hG hf hY hl R h0 hs n F' H' hk
     simp only [erase] at hm1
     exact CodeT.up (m0 := max m0 m1) hk2 fun n e k hn hp hle => by simp only [erase, exec, hm n e k (by omega) hp (by omega), hm1 n e k (by omega) hp (by omega)]
   | exit i => exact CodeT.up (m0 := m0) hk fun n e k hn hp hle => by simp only [erase, exec, hm n e k hn hp hle]
   | ret => exact CodeT.up (m0 := m0) hk fun n e k hn hp hle => by simp only [erase, exec, hm n e k hn hp hle]
   | brk _ _ => exact CodeT.up (m0 := m0) hk fun n e k hn hp hle => by simp only [erase, exec, hm n e k hn hp hle]
end
def AnsP (P : EP) (n : Nat) (az : List PV) (r : PV) : Prop := ∃ m0, ∀ k e m, m0 ≤ k → P k e → m0 ≤ m → pureRes e (inline e m) n az = some r
def Ans (E : Env) (n : Nat) (az : List PV) (r : PV) : Prop := AnsP (Uni E) n az r
def AnsS (E : Env) (n : Nat) (az : List PV) (r : PV) : Prop := AnsP (Solo E) n az r
theorem AnsP.sub {P P' : EP} {n : Nat} {az : List PV} {r : PV} (h : AnsP P n az r) (hs : ∀ k e, P' k e → P k e) : AnsP P' n az r := by
 obtain ⟨m0, hm⟩ := h
 exact ⟨m0, fun k e m h1 h2 h3 => hm k e m h1 (hs k e h2) h3⟩
theorem Ans.solo {E : Env} {n : Nat} {az : List PV} {r : PV} (h : Ans E n az r) : AnsS E n az r := AnsP.sub h fun _ e h => by cases h; rfl
def EffOk (E : Env) : Prop := ∀ n az H x, E.eff n az H = some x → E.qui n = false ∧ E.frz n = false ∧ (∀ az, E.sum n az = none) ∧ E.rb n = false
def AnsL (P : EP) (n : Nat) (az : List PV) (b : HB) (q : PV) (rows : List PV) : Prop := ∃ m0, ∀ k e m, m0 ≤ k → P k e → m0 ≤ m → locRes (inline e m) n az b = some (q, rows)
structure SEOk (P : EP) (S : SE) : Prop where
 sb : Sub P S.E
 sum : ∀ n wp, S.sumK n = some wp → ∀ az K, wp az K → ∃ r, K r ∧ AnsP P n az r
 inl : ∀ n fn, S.inl n = some fn → S.E.fns n = some fn.fn ∧ S.E.qui n = false ∧ S.E.frz n = false ∧ (∀ az, S.E.sum n az = none) ∧ (∀ az H, S.E.eff n az H = none) ∧ flatC fn.body = true ∧ LpOk P S.E S.lp [] fn.body
 eff : EffOk S.E
 sumL : ∀ n wp, S.sumL n = some wp → ∀ az b K, wp az b K → ∃ q rows, K q rows ∧ AnsL P n az b q rows
section
variable {S : SE} {P : EP} {callK : CK} {H : Hp}
theorem like_fns {E e : Env} (h : Like E e) : e.fns = E.fns ∧ e.sum = E.sum ∧ e.qui = E.qui ∧ e.frz = E.frz ∧ e.rb = E.rb ∧ e.nl = E.nl ∧ e.eff = E.eff := by
 unfold Like at h
 rw [h]
 exact ⟨rfl, rfl, rfl, rfl, rfl, rfl, rfl⟩
theorem WFn_ok (hP : Sub P S.E) (hG : Good P callK) {fn : TFn} (hR : RngOk P S.E callK fn.body) (hl : LpOk P S.E S.lp [] fn.body) {n : Nat} (hf : S.E.fns n = some fn.fn) (he : ∀ az H, S.E.eff n az H = none) {args : List PV} {K : PV → Hp → Prop} (h : WFn S.E callK S.lp fn args H K) :
   ∃ r H', K r H' ∧ ∃ m0, ∀ k e m, m0 ≤ k → P k e → m0 ≤ m → inline e m n args H = some (r, H') := by
 obtain ⟨h1, h⟩ := asr_iff.1 h
 have h1 : args.length = fn.nparams := by simpa using h1
 obtain ⟨x, F', H', hk, m0, hm⟩ := WC_ok fn.body P hP hG hR [] noYK (YOk.no _ _) hl _ H _ h
 have key : (match ressOf F' H' fn.results with | some ps => K (packed ps) H' | none => False) → (x = .norm ∨ x = .ret) →
     ∃ r H', K r H' ∧ ∃ m0, ∀ k e m, m0 ≤ k → P k e → m0 ≤ m → inline e m n args H = some (r, H') := by
   intro hk hx
   split at hk
   · rename_i ps hps
     refine ⟨_, _, hk, m0 + 1, fun k e m hkl hp hle => ?_⟩
     obtain ⟨q, rfl⟩ : ∃ q, m = q + 1 := ⟨m - 1, by omega⟩
     have e0 := hm k e q (by omega) hp (by omega)
     obtain ⟨l1, _, _, _, _, _, l7⟩ := like_fns (hP k e hp)
     simp only [inline, Env.effx, armOf, l7, l1, he, hf, TFn.fn, h1, if_true]
     rw [e0]
     rcases hx with rfl | rfl <;> simp only [hps]
   · exact hk.elim
 cases x with
 | norm => exact key hk (.inl rfl)
 | exit i => exact hk.elim
 | brk _ _ => exact hk.elim
 | ret => exact key hk (.inr rfl)
theorem callV_no {e : Env} {call : Nat → List PV → Hp → Option (PV × Hp)} {f : PV} {args : List PV} (h : locOf e f args = none) : callV e call f args H = callV0 e call f args H := by
 simp only [callV, h]
theorem callW_ok (hS : SEOk P S) : ∀ d, Good P (callW S d)
 | 0, f, args, H, K, h => h.elim
 | d + 1, f, args, H, K, h => by
   unfold callW at h
   split at h
   · rename_i n first captured
     split at h
     · rename_i x hx
       split at h
       · rename_i wp hwp
         unfold WLoc at h
         obtain ⟨az, H', h, hp⟩ := WPurA_ok _ _ _ h
         split at h
         · rename_i b hb
           obtain ⟨hc, h⟩ := asr_iff.1 h
           simp only [Bool.and_eq_true, Bool.not_eq_true'] at hc
           obtain ⟨q, rows, hk, m0, hm⟩ := hS.sumL _ wp hwp _ _ _ h
           refine ⟨q, _, hk, m0, fun k e m hkl he hle => ?_⟩
           simp only [callV, locOf_like (hS.sb k e he), hx, locRun, hp, hb]
           rw [if_pos hc]
           simp only [hm k e m hkl he hle]
         · exact h.elim
       · exact h.elim
     rename_i hx
     have hx' : ∀ k e, P k e → locOf e (.fn (.func n) first captured) args = none := fun k e he => (locOf_like (hS.sb k e he) _ _).trans hx
     split at h
     · rename_i wp hwp
       cases hb : S.E.rb n with
       | true =>
         rw [hb, cond_true] at h
         obtain ⟨az, h, hp⟩ := WPurPs_ok _ _ h
         obtain ⟨r, hk, m0, hm⟩ := hS.sum n wp hwp az _ h
         obtain ⟨hs, hk⟩ := asr_iff.1 hk
         refine ⟨r, _, hk, m0, fun k e m hkl he hle => ?_⟩
         obtain ⟨_, _, _, _, l5, _, _⟩ := like_fns (hS.sb k e he)
         rw [callV_no (hx' k e he)]
         simp only [callV0, l5, hb, if_true, hp, hm k e m hkl he hle, hs]
       | false =>
         rw [hb, cond_false] at h
         obtain ⟨az, H', h, hp⟩ := WPurA_ok _ _ _ h
         obtain ⟨r, hk, m0, hm⟩ := hS.sum n wp hwp az _ h
         refine ⟨r, _, hk, m0, fun k e m hkl he hle => ?_⟩
         obtain ⟨_, _, _, _, l5, _, _⟩ := like_fns (hS.sb k e he)
         rw [callV_no (hx' k e he)]
         simp only [callV0, l5, hb, Bool.false_eq_true, if_false, hp, hm k e m hkl he hle]
         cases r.scalar <;> simp
     · split at h
       · rename_i fn hfn
         obtain ⟨h1, h2, h3, h4, h6, h7, h5⟩ := hS.inl n fn hfn
         cases hb : S.E.rb n with
         | true =>
           rw [hb, cond_true] at h
           exact h.elim
         | false =>
           rw [hb, cond_false] at h
           obtain ⟨r, H', hk, m0, hm⟩ := WFn_ok hS.sb (callW_ok hS d) (fun hf => by rw [h7] at hf; cases hf) h5 h1 h6 h
           refine ⟨r, H', hk, m0, fun k e m hkl he hle => ?_⟩
           obtain ⟨_, l2, l3, l4, l5, _, _⟩ := like_fns (hS.sb k e he)
           have e0 : ∀ az, pureRes e (inline e m) n az = none := by
             intro az; simp only [pureRes, l2, l3, h4 az, h2]; rfl
           rw [callV_no (hx' k e he)]
           simp only [callV0, e0, l3, l4, l5, h2, h3, hb]
           cases purifyAll H (first ++ args ++ captured) <;> simp only [Bool.false_eq_true, if_false, hm k e m hkl he hle]
       · split at h
         · rename_i c t x y he
           obtain ⟨hc, h⟩ := asr_iff.1 h
           subst hc
           obtain ⟨h2, h3, h4, h7⟩ := hS.eff n _ _ _ he
           obtain ⟨r, H', h, hrt⟩ : ∃ r H', K r H' ∧ (bif t then x else y) = (r, H') := by
             cases t with
             | true => exact ⟨_, _, h, rfl⟩
             | false => exact ⟨_, _, h, rfl⟩
           refine ⟨r, H', h, 1, fun k e m hkl hp hle => ?_⟩
           obtain ⟨k, rfl⟩ : ∃ k, m = k + 1 := ⟨m - 1, by omega⟩
           obtain ⟨_, l2, l3, l4, l5, _, l7⟩ := like_fns (hS.sb _ e hp)
           have e0 : ∀ az, pureRes e (inline e (k + 1)) n az = none := by
             intro az; simp only [pureRes, l2, l3, h4 az, h2]; rfl
           have hi : inline e (k + 1) n (first ++ args ++ captured) H = some (r, H') := by
             simp only [inline, Env.effx, armOf, l7, he, hrt]
           rw [callV_no (hx' _ e hp)]
           simp only [callV0, e0, l3, l4, l5, h2, h3, h7]
           cases purifyAll H (first ++ args ++ captured) <;> simp only [Bool.false_eq_true, if_false, hi]
         · exact h.elim
   · exact h.elim
theorem WP_ok (hS : SEOk P S) {d : Nat} {fn : TFn} {n : Nat} (hR : RngOk P S.E (callW S d) fn.body) (hl : LpOk P S.E S.lp [] fn.body) (hf : S.E.fns n = some fn.fn) (hq : S.E.qui n = true) (hs : ∀ az, S.E.sum n az = none) (he : ∀ az H, S.E.eff n az H = none) {az : List PV} {K : PV → Prop} (h : WP S d fn az K) (hn : S.E.nl n = false := by kernel_rfl) :
   ∃ r, K r ∧ AnsP P n az r := by
 unfold WP at h
 obtain ⟨r, H', hk, m0, hm⟩ := WFn_ok hS.sb (callW_ok hS d) hR hl hf he h
 obtain ⟨q, hk, hq'⟩ := WPurR_ok hk
 refine ⟨q, hk, m0, fun k e m hkl hp hle => ?_⟩
 obtain ⟨_, l2, l3, _, _, l6, _⟩ := like_fns (hS.sb k e hp)
 simp only [pureRes, l2, l3, l6, hs az, hq, hm k e m hkl hp hle, hn, purN, cond_false, hq', if_true]
theorem RngOk.flat {E : Env} {c : TCode} (h : flatC c = true := by kernel_rfl) : RngOk P E callK c := fun hf => by rw [h] at hf; cases hf
end
def AllL (P : EP) (lp : LP) (G : Frm) : List (Nat × TCode) → Prop
 | [] => True
 | p :: r => (∀ F H Q, lp p.1 G F H Q → LoopT P p.2 F H Q) ∧ AllL P lp G r
theorem AllL.mem {P : EP} {lp : LP} {G : Frm} : ∀ {l : List (Nat × TCode)}, AllL P lp G l → ∀ p ∈ l, ∀ F H Q, lp p.1 G F H Q → LoopT P p.2 F H Q
 | [], _, p, hp => by cases hp
 | q :: r, h, p, hp => by
   rcases List.mem_cons.1 hp with rfl | hp
   · exact h.1
   · exact AllL.mem h.2 p hp
theorem LpOk_by {P : EP} {E : Env} {lp : LP} {G : Frm} {c : TCode} {l : List (Nat × TCode)} (h : AllL P lp G l) (e : loopsOf c = l) (hf : flatC c = true := by kernel_rfl) : LpOk P E lp G c := LpOk_of c hf (by rw [e]; exact h.mem)
theorem LpOk_no {P : EP} {E : Env} {lp : LP} {G : Frm} {c : TCode} (e : loopsOf c = []) (hf : flatC c = true := by kernel_rfl) : LpOk P E lp G c := LpOk_by (l := []) trivial e hf
def lookS : List (Nat × (List PV → (PV → Prop) → Prop)) → Nat → Option (List PV → (PV → Prop) → Prop)
 | [], _ => none
 | (k, f) :: r, n => bif Nat.beq k n then some f else lookS r n
def lookI : List (Nat × TFn) → Nat → Option TFn
 | [], _ => none
 | (k, f) :: r, n => bif Nat.beq k n then some f else lookI r n
def AllS (P : EP) : List (Nat × (List PV → (PV → Prop) → Prop)) → Prop
 | [] => True
 | (k, f) :: r => (∀ az K, f az K → ∃ q, K q ∧ AnsP P k az q) ∧ AllS P r
def AllI (P : EP) (E : Env) (lp : LP) : List (Nat × TFn) → Prop
 | [] => True
 | (k, f) :: r => (E.fns k = some f.fn ∧ E.qui k = false ∧ E.frz k = false ∧ (∀ az, E.sum k az = none) ∧ (∀ az H, E.eff k az H = none) ∧ flatC f.body = true ∧ LpOk P E lp [] f.body) ∧ AllI P E lp r
theorem lookS_ok {P : EP} : ∀ (l : List (Nat × (List PV → (PV → Prop) → Prop))), AllS P l → ∀ n wp, lookS l n = some wp → ∀ az K, wp az K → ∃ r, K r ∧ AnsP P n az r
 | [], _, _, _, h => by simp [lookS] at h
 | (k, f) :: r, hl, n, wp, h => by
   simp only [AllS] at hl
   simp only [lookS] at h
   cases hc : Nat.beq k n with
   | true =>
     rw [hc] at h
     simp only [cond_true, Option.some.injEq] at h
     have := Nat.eq_of_beq_eq_true hc
     subst this; subst h
     exact hl.1
   | false =>
     rw [hc] at h
     exact lookS_ok r hl.2 n wp (by simpa using h)
theorem lookI_ok {P : EP} {E : Env} {lp : LP} : ∀ (l : List (Nat × TFn)), AllI P E lp l → ∀ n fn, lookI l n = some fn → E.fns n = some fn.fn ∧ E.qui n = false ∧ E.frz n = false ∧ (∀ az, E.sum n az = none) ∧ (∀ az H, E.eff n az H = none) ∧ flatC fn.body = true ∧ LpOk P E lp [] fn.body
 | [], _, _, _, h => by simp [lookI] at h
 | (k, f) :: r, hl, n, fn, h => by
   simp only [AllI] at hl
   simp only [lookI] at h
   cases hc : Nat.beq k n with
   | true =>
     rw [hc] at h
     simp only [cond_true, Option.some.injEq] at h
     have := Nat.eq_of_beq_eq_true hc
     subst this; subst h
     exact hl.1
   | false =>
     rw [hc] at h
     exact lookI_ok r hl.2 n fn (by simpa using h)
theorem seOk_of {P : EP} {E : Env} {ls : List (Nat × (List PV → (PV → Prop) → Prop))} {li : List (Nat × TFn)} {lp : LP} (hb : Sub P E) (hs : AllS P ls) (hi : AllI P E lp li) (he : EffOk E) : SEOk P ⟨E, lookS ls, lookI li, lp, fun _ => none⟩ where
 sb := hb
 sum := fun n wp h => lookS_ok ls hs n wp h
 inl := fun n fn h => lookI_ok li hi n fn h
 eff := he
 sumL := fun n wp h => by cases h
end Go.Pf
namespace Go.Pf
open Go
theorem sumC_none {add sub n : Nat} (h1 : Nat.beq n add = false) (h2 : Nat.beq n sub = false) (az : List PV) : sumC add sub n az = none := by
 unfold sumC
 split
 · rw [h1, h2]; rfl
 · rfl
def w_m_Add64 (p0 p1 p2 : Int) (K : Int → Int → Prop) : Prop :=
 asr (decide (p2.toNat ≤ 1)) (K (((p0.toNat + p1.toNat + p2.toNat) % 18446744073709551616 : Nat) : Int) (((p0.toNat + p1.toNat + p2.toNat) / 18446744073709551616 : Nat) : Int))
def len8tab : List PV := ([0,1,2,2,3,3,3,3,4,4,4,4,4,4,4,4,5,5,5,5,5,5,5,5,5,5,5,5,5,5,5,5,6,6,6,6,6,6,6,6,6,6,6,6,6,6,6,6,6,6,6,6,6,6,6,6,6,6,6,6,6,6,6,6,7,7,7,7,7,7,7,7,7,7,7,7,7,7,7,7,7,7,7,7,7,7,7,7,7,7,7,7,7,7,7,7,7,7,7,7,7,7,7,7,7,7,7,7,7,7,7,7,7,7,7,7,7,7,7,7,7,7,7,7,7,7,7,7,8,8,8,8,8,8,8,8,8,8,8,8,8,8,8,8,8,8,8,8,8,8,8,8,8,8,8,8,8,8,8,8,8,8,8,8,8,8,8,8,8,8,8,8,8,8,8,8,8,8,8,8,8,8,8,8,8,8,8,8,8,8,8,8,8,8,8,8,8,8,8,8,8,8,8,8,8,8,8,8,8,8,8,8,8,8,8,8,8,8,8,8,8,8,8,8,8,8,8,8,8,8,8,8,8,8,8,8,8,8,8,8,8,8,8,8,8,8,8,8,8,8,8,8,8,8,8,8] : List Int).map (PV.int .u8)
def pw_m_Add64 (w : Int → Int → Int → (Int → Int → Prop) → Prop) (az : List PV) (K : PV → Prop) : Prop :=
 match az with
 | [(.int .u64 p0), (.int .u64 p1), (.int .u64 p2)] => w p0 p1 p2 (fun (r0 : Int) (r1 : Int) => K (.tup [(.int .u64 r0), (.int .u64 r1)]))
 | _ => False
def wp_m_Add64 (az : List PV) (K : PV → Prop) : Prop := pw_m_Add64 w_m_Add64 az K
def w_m_Sub64 (p0 p1 p2 : Int) (K : Int → Int → Prop) : Prop :=
 asr (decide (p2.toNat ≤ 1)) (K (((p0.toNat + 18446744073709551616 - p1.toNat - p2.toNat) % 18446744073709551616 : Nat) : Int) ((bif Nat.ble (p1.toNat + p2.toNat) p0.toNat then 0 else 1 : Nat) : Int))
def pw_m_Sub64 (w : Int → Int → Int → (Int → Int → Prop) → Prop) (az : List PV) (K : PV → Prop) : Prop :=
 match az with
 | [(.int .u64 p0), (.int .u64 p1), (.int .u64 p2)] => w p0 p1 p2 (fun (r0 : Int) (r1 : Int) => K (.tup [(.int .u64 r0), (.int .u64 r1)]))
 | _ => False
def wp_m_Sub64 (az : List PV) (K : PV → Prop) : Prop := pw_m_Sub64 w_m_Sub64 az K
theorem sum_ans {P : Program} {E : Env} (hE : EnvOk P E) (hm : P.follows .mixedOrders = true) {n : Nat} {az : List PV} {r : PV} (hs : E.sum n az = none) (hq : E.qui n = true) (h : AnsS E n az r) : SumOk P E.glob n az r := by
 obtain ⟨m0, hm0⟩ := h
 have := hm0 m0 E m0 (Nat.le_refl _) rfl (Nat.le_refl _)
 simp only [pureRes, hs, hq, if_true] at this
 refine sum_top hE hm (n := m0) ?_
 unfold topV
 split at this
 · rename_i x H hx; rw [hx]; exact this
 · cases this
end Go.Pf
namespace Go.Pf
open Go Go.RowKit
section
variable {P : Program} {E : Env}
theorem run_pureR {b : Bool} {call} (hc : InlineOk P E call) {I : Nat → Prop} {w : World} {f : Nat} {args : List PV} {vs : List Value} {r q : PV} {H : Hp} (himm : ∀ b, I b → b < w.heap.size)
   (hg : ∀ n x, E.glob n = some x → I n ∧ ∃ vs, 0 < vs.length ∧ RC I w x vs ∧ At w n 0 vs) (hv : VRs ⟨fun _ => none, fun _ => none, I, fun _ => none⟩ [] w args vs) (hin : call f args [] = some (r, H)) (h : purN b H r = some q) :
   CallR P f vs.toArray w fun v w' => Bel w.heap.size w w' ∧ VP (fun b => I b ∨ (w.heap.size ≤ b ∧ b < w'.heap.size)) w' q v := by
 let g0 : Gh := ⟨fun _ => none, fun _ => none, I, fun _ => none⟩
 have hr : Rel E 0 g0 [] [] #[] w := by
   refine ⟨Nat.zero_le _, fun s fv e => by simp [fget] at e, fun id hb e => by simp at e, fun id id' hb b o b' o' e => by simp at e, fun id b o e => by simp [g0] at e, fun s s' b e => by simp [g0] at e, fun s b id o e => by simp [g0] at e, fun s b e => by simp [g0] at e, himm, hg⟩
 refine (hc f args [] r H hin 0 g0 [] #[] w vs hr (Lps.none_ fun _ => rfl) hv).mono ?_
 rintro v w' ⟨g', n1, r1, hvr⟩
 obtain ⟨g2, H2, r2, n2, hvp⟩ := purN_sound r1 hvr h
 have n3 := n1.trans n2
 have noR : ∀ b, ¬ RngR g0 b := fun b ⟨id, o, e⟩ => by simp [g0] at e
 have noM : ∀ b, ¬ MutF g0 b := fun b ⟨s, e⟩ => by simp [g0] at e
 refine ⟨⟨⟨n3.os, n3.tape, n3.output, n3.size, fun k hk => n3.kept k hk (noR k) (noM k)⟩, n3.drawn⟩, VP_keep (fun b hb => ⟨?_, rfl⟩) hvp⟩
 rcases Nat.lt_or_ge b w.heap.size with h1 | h1
 · rcases hb with hb | hb
   · rcases n3.immb b h1 hb with h2 | h2
     · exact .inl h2
     · exact absurd h2 (noR b)
   · exact absurd (n3.rng b h1 hb) (noR b)
 · exact .inr ⟨h1, hb.elim (r2.imm b) r2.brng⟩
theorem sum_mt (hE : EnvOk P E) (hm : P.follows .mixedOrders = true) {n f : Nat} {q : PV} (h : ∀ b, topV E n f [.mt b] = some q) : SumOk P E.glob f [.data []] q := by
 intro I w vs himm hgl hv
 simp only [VPs, VP1, RC] at hv
 obtain ⟨v, vr, rfl, ⟨a, len, cap, e, hl, hc, hm2, _⟩, rfl⟩ := hv
 simp only [List.cons.injEq, and_true] at e
 subst e
 have hl : len = 0 := hl
 subst hl
 have hh := h a.isNone
 unfold topV at hh
 split at hh
 · rename_i r H hin
   refine run_pureR (inline_ok hE hm n) himm hgl (args := [.mt a.isNone]) ?_ hin hh
   simp only [VRs, VR]
   exact ⟨_, _, rfl, ⟨a, cap, rfl, hm2, rfl⟩, rfl⟩
 · cases hh
end
def cloneA (esz bytes : Nat) (z : PV) : AFn := ⟨1, [.tmp 2],
 (.seq
  (.ops [⟨some 2, (.mv (.c .nils)), none⟩] [] [2])
  (.seq
   (.seq
    (.ops [⟨some 3, (.mv (.t 0)), none⟩,
     ⟨some 4, (.eqN false (.t 3)), none⟩] [] [3])
    (.cond (.t 4)
     (.seq (.ops [⟨some 2, (.mv (.c .nils)), none⟩] [] [0, 4]) .ret)
     .skip))
   (.seq
    (.ops [⟨some 5, (.buildSl true esz z 0 []), none⟩,
     ⟨some 6, (.mv (.t 0)), none⟩,
     ⟨some 7, (.app true esz bytes (.t 5) (.t 6)), none⟩,
     ⟨some 2, (.mv (.t 7)), none⟩] [] [0, 4, 5, 6, 7])
    .ret)))⟩
abbrev Clones := List (Nat × Nat × Nat)
def cloneOk (esz bytes : Nat) (rows : List PV) : Bool := headOk esz rows && decide ((rows.length + 64) * (bytes + 1) ≤ room)
def cloneSum : Clones → Nat → List PV → Option PV
 | [], _, _ => none
 | (k, esz, bytes) :: r, n, az => bif Nat.beq k n then (match az with
     | [.data rows] => (bif cloneOk esz bytes rows then some (.data rows) else none)
     | _ => none) else cloneSum r n az
def inClones : Clones → Nat → Bool
 | [], _ => false
 | (k, _, _) :: r, n => Nat.beq k n || inClones r n
section
variable {P : Program} {E : Env}
theorem clone_mt {n esz bytes : Nat} {z : PV} (hf : E.fns n = some (cloneA esz bytes z)) (he : ∀ az H, E.eff n az H = none) (hnl : E.nl n = false) (b : Bool) : topV E 12 n [.mt b] = some (.data []) := by
 unfold topV
 cases b <;> simp [inline, Env.effx, armOf, he, exec, hf, cloneA, runReg, runOps, stepOp, guardOk, opOut, evV, ev, frame0, fget, fset, fdels, fdel, putBx, putDst, outV, Option.map, ressOf, resOf, packed, purN, hnl, purR, purify, purify1, appV, rowsOf, headOk, srcOk]
theorem clone_cons {n esz bytes : Nat} {z : PV} (hf : E.fns n = some (cloneA esz bytes z)) (he : ∀ az H, E.eff n az H = none) (hnl : E.nl n = false) {x : PV} {r : List PV} (h : cloneOk esz bytes (x :: r) = true) : topV E 12 n [.data (x :: r)] = some (.data (x :: r)) := by
 simp only [cloneOk, Bool.and_eq_true, decide_eq_true_eq, List.length_cons] at h
 obtain ⟨h1, h2⟩ := h
 unfold topV
 simp [inline, Env.effx, armOf, he, exec, hf, cloneA, runReg, runOps, stepOp, guardOk, opOut, evV, ev, frame0, fget, fset, fdels, fdel, putBx, putDst, outV, Option.map, ressOf, resOf, packed, purN, hnl, purR, purify, purify1, appV, rowsOf, h1, srcOk, appFresh, h2]
theorem cloneSum_ok (hE : EnvOk P E) (hm : P.follows .mixedOrders = true) (he : ∀ n az H, E.eff n az H = none) (hnl : ∀ n, E.nl n = false) : ∀ (cl : Clones), (∀ n esz bytes, (n, esz, bytes) ∈ cl → ∃ z, E.fns n = some (cloneA esz bytes z)) → ∀ n az r, cloneSum cl n az = some r → SumOk P E.glob n az r
 | [], _, _, _, _, h => by simp [cloneSum] at h
 | (k, esz, bytes) :: t, hc, n, az, r, h => by
   simp only [cloneSum] at h
   cases hb : Nat.beq k n with
   | false => rw [hb] at h; exact cloneSum_ok hE hm he hnl t (fun n e b hm => hc n e b (List.mem_cons_of_mem _ hm)) n az r (by simpa using h)
   | true =>
     rw [hb] at h
     have e := Nat.eq_of_beq_eq_true hb
     subst e
     simp only [cond_true] at h
     split at h
     · rename_i rows
       cases hk : cloneOk esz bytes rows with
       | false => rw [hk] at h; simp at h
       | true =>
         rw [hk] at h
         simp only [cond_true, Option.some.injEq] at h
         subst h
         obtain ⟨z, hf⟩ := hc k esz bytes List.mem_cons_self
         cases rows with
         | nil => exact sum_mt hE hm (fun b => clone_mt hf (he k) (hnl k) b)
         | cons x r => exact sum_top hE hm (clone_cons hf (he k) (hnl k) hk)
     · cases h
end
def lookG : List (Nat × PV) → Nat → Option PV
 | [], _ => none
 | (k, a) :: r, n => bif Nat.beq k n then some a else lookG r n
theorem SumOk.any {P : Program} {G : Nat → Option PV} {f : FuncId} {az : List PV} {r : PV} (h : SumOk P (fun _ => none) f az r) : SumOk P G f az r :=
 fun I w vs hI _ hv => h I w vs hI (fun _ _ e => nomatch e) hv
def baseC (add sub : Nat) (tab : List (Nat × AFn)) (qui : List Nat) (cl : Clones) (gl : List (Nat × PV)) : Env :=
 { glob := lookG gl, sum := fun n az => match sumC add sub n az with | some r => some r | none => cloneSum cl n az, fns := lookF tab, frz := fun _ => false, qui := memN qui, nl := fun n => memN qui (n + 1000000), rb := fun n => memN qui (n + 3000000), lo := fun n => bif memN qui (n + 4000000) then some 1 else bif memN qui (n + 5000000) then some 0 else bif memN qui (n + 2000000) then some 4 else none, dn := fun n => memN qui (n + 6000000) }
def special (add sub : Nat) (cl : Clones) (n : Nat) : Bool := Nat.beq n add || (Nat.beq n sub || inClones cl n)
theorem cloneSum_none : ∀ (cl : Clones) (n : Nat) (az : List PV), inClones cl n = false → cloneSum cl n az = none
 | [], _, _, _ => rfl
 | (k, _, _) :: r, n, az, h => by
   simp only [inClones, Bool.or_eq_false_iff] at h
   simp only [cloneSum, h.1, cond_false]
   exact cloneSum_none r n az h.2
theorem baseC_none {add sub : Nat} {tab : List (Nat × AFn)} {qui : List Nat} {cl : Clones} {gl : List (Nat × PV)} {n : Nat} (h : special add sub cl n = false) (az : List PV) : (baseC add sub tab qui cl gl).sum n az = none := by
 simp only [special, Bool.or_eq_false_iff] at h
 simp only [baseC, sumC_none h.1 h.2.1, cloneSum_none cl n az h.2.2]
def w_clone (esz bytes : Nat) (p0 : List PV) (K : List PV → Prop) : Prop := asr (cloneOk esz bytes p0) (K p0)
def pw_clone (w : List PV → (List PV → Prop) → Prop) (az : List PV) (K : PV → Prop) : Prop :=
 match az with
 | [(.data p0)] => w p0 (fun r0 => K (.data r0))
 | _ => False
def wp_clone (esz bytes : Nat) (az : List PV) (K : PV → Prop) : Prop := pw_clone (w_clone esz bytes) az K
def cloneAt : Clones → Nat → Option (Nat × Nat)
 | [], _ => none
 | (k, e, b) :: r, n => bif Nat.beq k n then some (e, b) else cloneAt r n
theorem cloneSum_at {n esz bytes : Nat} {rows : List PV} : ∀ (cl : Clones), cloneAt cl n = some (esz, bytes) → cloneOk esz bytes rows = true → cloneSum cl n [.data rows] = some (.data rows)
 | [], h, _ => by simp [cloneAt] at h
 | (k, e, b) :: r, h, hk => by
   simp only [cloneAt] at h
   simp only [cloneSum]
   cases hb : Nat.beq k n with
   | true => rw [hb] at h; simp only [cond_true, Option.some.injEq, Prod.mk.injEq] at h; obtain ⟨rfl, rfl⟩ := h; simp only [cond_true, hk]
   | false => rw [hb] at h; simp only [cond_false] at h ⊢; exact cloneSum_at r h hk
theorem baseC_ok {P : Program} {add sub : Nat} {tab : List (Nat × AFn)} {qui : List Nat} {cl : Clones} {gl : List (Nat × PV)} (hm : P.follows .mixedOrders = true) (ha : IsExtern P add add64Entry) (hs : IsExtern P sub sub64E) (ht : AllOk P tab)
   (hd : ∀ n ∈ dnL qui, NoopF P n) (hc : ∀ n esz bytes, (n, esz, bytes) ∈ cl → ∃ z, lookF tab n = some (cloneA esz bytes z)) : EnvOk P (baseC add sub tab qui cl gl) where
 sum := by
   intro n az r h
   simp only [baseC] at h
   split at h
   · rename_i q hq; cases h; exact sumC_ok ha hs n az _ hq
   · exact (cloneSum_ok (base_ok (qui := []) ha hs ht) hm (fun _ _ _ => rfl) (fun _ => rfl) cl (fun n e b hmem => hc n e b hmem) n az r h).any
 fns := fun n fn h => lookF_ok tab ht n fn h
 eff := fun _ _ _ _ _ _ _ h => by cases h
 dn := fun n h => hd n (dnL_mem h)
 top := fun _ _ => rfl
 yl := fun _ _ _ _ _ _ h => by cases h
end Go.Pf
namespace Go.Pf
abbrev Ls : Type := List PV
def O (d : Nat) (x : AOp) : AOper := ⟨some d, x, none⟩
def M (d s : Nat) : AOper := ⟨some d, .mv (.t s), none⟩
def I (n : Int) : Opd := .c (.int .i64 n)
def oX (d : Nat) (op : BinOp) (a b : Nat) : AOper := ⟨some d, .bin op (.t a) (.t b), none⟩
def oT (d sz a : Nat) : AOper := ⟨some d, .load true sz (.t a), none⟩
def oF (d sz a : Nat) : AOper := ⟨some d, .load false sz (.t a), none⟩
def oQ (l : List AOper) (d : List Nat) : TCode := .ops l [] [] d
abbrev OkF (E : Env) (wp : List PV → (PV → Prop) → Prop) (n : Nat) : Prop := ∀ az K, wp az K → ∃ r, K r ∧ Ans E n az r
abbrev OkL (E : Env) (wp : List PV → HB → (PV → List PV → Prop) → Prop) (n : Nat) : Prop := ∀ az b K, wp az b K → ∃ q rows, K q rows ∧ AnsL (Uni E) n az b q rows
abbrev OkS (E : Env) (wp : List PV → (PV → Prop) → Prop) (n : Nat) : Prop := ∀ az K, wp az K → ∃ r, K r ∧ AnsS E n az r
theorem OkF.solo {E : Env} {wp : List PV → (PV → Prop) → Prop} {n : Nat} (h : OkF E wp n) : OkS E wp n := fun az K k => by
 obtain ⟨r, h1, h2⟩ := h az K k
 exact ⟨r, h1, h2.solo⟩
theorem AnsS.unique {E : Env} {n : Nat} {az : List PV} {r r' : PV} (h : AnsS E n az r) (h' : AnsS E n az r') : r = r' := by
 obtain ⟨m, hm⟩ := h
 obtain ⟨m', hm'⟩ := h'
 have e := hm (m + m') E (m + m') (by omega) rfl (by omega)
 rw [hm' (m + m') E (m + m') (by omega) rfl (by omega)] at e
 exact (Option.some.inj e).symm
theorem detS {E : Env} {n : Nat} {wp : List PV → (PV → Prop) → Prop} (ok : OkS E wp n) {az : List PV} {x : PV}
   (h : ∀ K : PV → Prop, K x → wp az K) {K : PV → Prop} (k : wp az K) : K x := by
 obtain ⟨r, h1, h2⟩ := ok az K k
 obtain ⟨q, h3, h4⟩ := ok az (fun y => y = x) (h _ rfl)
 subst h3
 rw [← h2.unique h4]
 exact h1
theorem detC {E : Env} {n : Nat} {wp : List PV → (PV → Prop) → Prop} (ok : ∀ az K, wp az K → ∃ r, K r ∧ Ans E n az r) {az : List PV} {x : PV}
   (h : ∀ K : PV → Prop, K x → wp az K) {K : PV → Prop} (k : wp az K) : K x := detS (OkF.solo ok) h k
end Go.Pf
namespace Go.Pf
open Go
inductive DS where
 | b
 | i (k : IntKind)
 | s (e : DS)
 | a (l : List DS)
def DS.isA : DS → Bool
 | .a _ => true
 | _ => false
def PV.isAgg : PV → Bool
 | .agg _ => true
 | _ => false
mutual
def HasF : DS → List PV → Prop
 | .b, c => ∃ x, c = [.bool x]
 | .i k, c => ∃ n, c = [.int k n] ∧ inK k n
 | .s e, c => ∃ rows : List PV, c = [.data rows] ∧ rows.length ≤ maxLen ∧ ∀ x ∈ rows, x.isAgg = e.isA ∧ HasF e x.cells
 | .a l, c => HasL l c
def HasL : List DS → List PV → Prop
 | [], c => c = []
 | d :: l, c => ∃ c1 c2, c = c1 ++ c2 ∧ HasF d c1 ∧ HasL l c2
end
mutual
def tyOk (P : Program) : DS → TypeId → Bool
 | .b, t => (match P.underlying t with | some .bool => true | _ => false)
 | .i k, t => (match P.underlying t with | some (.int q) => decide (q = k) | _ => false)
 | .s e, t => (match P.underlying t with | some (.slice u) => decide (0 < P.cellsOf u) && tyOk P e u | _ => false)
 | .a l, t => (match P.underlying t with | some (.struct fs) => tyL P l (fs.toList.map (·.type)) | some (.array n u) => tyL P l (List.replicate n u) | _ => false)
def tyL (P : Program) : List DS → List TypeId → Bool
 | [], [] => true
 | d :: l, t :: r => tyOk P d t && tyL P l r
 | _, _ => false
end
theorem tyL_len (P : Program) : ∀ (l : List DS) (ts : List TypeId), tyL P l ts = true → l.length = ts.length
 | [], [], _ => rfl
 | _ :: l, _ :: r, h => by
   unfold tyL at h
   simp only [Bool.and_eq_true] at h
   simp [tyL_len P l r h.2]
 | [], _ :: _, h => by unfold tyL at h; cases h
 | _ :: _, [], h => by unfold tyL at h; cases h
theorem tyL_get (P : Program) : ∀ (l : List DS) (ts : List TypeId), tyL P l ts = true → ∀ (j : Nat) d t, l[j]? = some d → ts[j]? = some t → tyOk P d t = true
 | [], [], _, _, _, _, h, _ => by simp at h
 | d :: l, t :: r, h, 0, d', t', h1, h2 => by
   unfold tyL at h
   simp only [Bool.and_eq_true] at h
   simp only [List.getElem?_cons_zero, Option.some.injEq] at h1 h2
   subst h1; subst h2; exact h.1
 | d :: l, t :: r, h, j + 1, d', t', h1, h2 => by
   unfold tyL at h
   simp only [Bool.and_eq_true] at h
   exact tyL_get P l r h.2 j d' t' (by simpa using h1) (by simpa using h2)
 | [], _ :: _, h, _, _, _, _, _ => by unfold tyL at h; cases h
 | _ :: _, [], h, _, _, _, _, _ => by unfold tyL at h; cases h
section
variable {H : Type} {enc : TypeId × Value → H} {P : Program} {w : World} {I : Nat → Prop}
theorem CellsC_app {l1 l2 : List PV} {v1 v2 : List Value} (h1 : CellsC I w l1 v1) (h2 : CellsC I w l2 v2) : CellsC I w (l1 ++ l2) (v1 ++ v2) := CellsC_append h1 h2
def Opens (enc : TypeId × Value → H) (P : Program) (w : World) (I : Nat → Prop) (n : Nat) : Prop :=
 ∀ (d : DS) (t : TypeId) (cs : List Value) (x : DataW H × List MemPlace), t < P.types.size → tyOk P d t = true → DataW.trod enc P w 0 (fun _ => true) true n t cs = some x → (∀ p ∈ x.2, I p.block) → ∃ pcs, HasF d pcs ∧ CellsC I w pcs cs
theorem open_parts {n : Nat} (ih : Opens enc P w I n) {l : List DS} {ts : List TypeId} (hl : tyL P l ts = true) (hrow : ∀ t ∈ ts, t < P.types.size) {cs : List Value} {xs : List (DataW H × List MemPlace)} (off : Nat → Nat)
   (hoff : ∀ j t, ts[j]? = some t → off (j + 1) = off j + P.cellsOf t) (hend : cs.length ≤ off ts.length) (hx : ∀ j t, ts[j]? = some t → DataW.trod enc P w 0 (fun _ => true) true n t ((cs.drop (off j)).take (P.cellsOf t)) = xs[j]?)
   (hxl : xs.length = ts.length) (hI : ∀ p ∈ xs.flatMap (·.2), I p.block) :
   ∀ (r j : Nat), j + r = ts.length → ∃ pcs, HasL (l.drop j) pcs ∧ CellsC I w pcs (cs.drop (off j)) := by
 have hll := tyL_len P l ts hl
 intro r
 induction r with
 | zero =>
   intro j hj
   refine ⟨[], ?_, ?_⟩
   · rw [List.drop_of_length_le (by omega)]; simp only [HasL]
   · rw [List.drop_of_length_le (by rw [show j = ts.length by omega]; exact hend)]; simp only [CellsC]
 | succ r ihr =>
   intro j hj
   obtain ⟨pcs, h1, h2⟩ := ihr (j + 1) (by omega)
   have ht : ts[j]? = some ts[j] := List.getElem?_eq_getElem (by omega)
   have hd : l[j]? = some l[j] := List.getElem?_eq_getElem (by omega)
   have hxj : xs[j]? = some xs[j] := List.getElem?_eq_getElem (by omega)
   have h := hx j _ ht
   rw [hxj] at h
   obtain ⟨pc, k1, k2⟩ := ih l[j] ts[j] _ _ (hrow _ (List.getElem_mem _)) (tyL_get P l ts hl j _ _ hd ht) h (fun p hp => hI p (List.mem_flatMap.2 ⟨xs[j], List.getElem_mem _, hp⟩))
   refine ⟨pc ++ pcs, ?_, ?_⟩
   · rw [List.drop_eq_getElem_cons (by omega)]
     simp only [HasL]
     exact ⟨pc, pcs, rfl, k1, h1⟩
   · have e : cs.drop (off j) = (cs.drop (off j)).take (P.cellsOf ts[j]) ++ cs.drop (off (j + 1)) := by
       rw [hoff j _ ht, ← List.drop_drop, List.take_append_drop]
     rw [e]
     exact CellsC_app k2 h2
theorem row_of {d : DS} {pcs : List PV} (h : HasF d pcs) : ∃ x : PV, x.isAgg = d.isA ∧ x.cells = pcs ∧ ∀ vs, CellsC I w pcs vs → RC I w x vs := by
 have one : ∀ y : PV, y.isAgg = false → pcs = [y] → d.isA = false → ∃ x : PV, x.isAgg = d.isA ∧ x.cells = pcs ∧ ∀ vs, CellsC I w pcs vs → RC I w x vs := by
   intro y hy e hd
   refine ⟨y, hy.trans hd.symm, ?_, ?_⟩
   · subst e; cases y <;> first | rfl | cases hy
   · intro vs hv
     subst e
     simp only [CellsC] at hv
     obtain ⟨v, vr, rfl, _, h1, rfl⟩ := hv
     exact h1
 cases d with
 | b => simp only [HasF] at h; obtain ⟨x, e⟩ := h; exact one _ rfl e rfl
 | i k => simp only [HasF] at h; obtain ⟨x, e, _⟩ := h; exact one _ rfl e rfl
 | s e => simp only [HasF] at h; obtain ⟨x, e, _⟩ := h; exact one _ rfl e rfl
 | a l => exact ⟨.agg pcs, rfl, rfl, fun vs hv => by simp only [RC]; exact hv⟩
theorem open_cells (K : Kids P (· < P.types.size)) : ∀ n, Opens enc P w I n := by
 intro n
 induction n with
 | zero => intro d t cs x _ _ h; simp [DataW.trod] at h
 | succ n ih =>
   intro d t cs x hrow hty h hI
   cases d with
   | b =>
     unfold tyOk at hty
     split at hty
     · rename_i ht
       obtain ⟨b, rfl, _⟩ := DataW.trod_bool ht h
       refine ⟨[.bool b], by simp only [HasF]; exact ⟨b, rfl⟩, ?_⟩
       simp only [CellsC, RC]
       exact ⟨_, _, rfl, rfl, rfl, rfl⟩
     · cases hty
   | i k =>
     unfold tyOk at hty
     split at hty
     · rename_i q ht
       simp only [decide_eq_true_eq] at hty
       subst hty
       obtain ⟨m, rfl, _, hw⟩ := DataW.trod_int ht h
       have hk : inK q m := by
         unfold inK
         simpa [Lit.wf] using hw
       refine ⟨[.int q m], by simp only [HasF]; exact ⟨m, rfl, hk⟩, ?_⟩
       simp only [CellsC, RC]
       exact ⟨_, _, rfl, rfl, ⟨rfl, hk⟩, rfl⟩
     · cases hty
   | s e =>
     unfold tyOk at hty
     split at hty
     · rename_i u ht
       simp only [Bool.and_eq_true, decide_eq_true_eq] at hty
       obtain ⟨hpos, hty⟩ := hty
       rcases DataW.trod_slice ht h with ⟨rfl, _⟩ | ⟨a, len, cap, elems, rest, m, hm, rfl, rfl, _, hle, hcap, hlen, hel, _⟩
       · refine ⟨[.data []], ?_, ?_⟩
         · simp only [HasF]; exact ⟨[], rfl, by simp, by simp⟩
         · simp only [CellsC, RC]
           exact ⟨_, _, rfl, rfl, ⟨none, 0, 0, rfl, rfl, by omega, by decide, by simp⟩, rfl⟩
       · have hmn : m = n := by omega
         subst hmn
         have hru := K.slice hrow ht
         have hspot0 : len ≠ 0 → a.spot = none := by
           intro h0
           have hb := hel 0 (by omega)
           rw [List.getElem?_eq_getElem (by omega)] at hb
           obtain ⟨cs', hc, hy⟩ := Option.bind_eq_some_iff.1 hb
           obtain ⟨_, hcl, hcg⟩ := World.cells?_some hc
           have h0 := hcg 0 hpos
           rw [List.getElem?_eq_getElem (by omega)] at h0
           have e0 : (a.add (0 * P.cellsOf u)).add 0 = a := by simp [Addr.add]
           rw [e0] at h0
           unfold World.cell? at h0
           split at h0
           · split at h0
             · cases h0
             · rename_i hs; simpa using hs
           · cases h0
         have hadd : a.spot = none → ∀ k i : Nat, (a.add k).add i = ⟨a.block, a.off + k + i, none⟩ := by
           intro hs k i
           obtain ⟨ab, ao, az⟩ := a
           simp only at hs
           subst hs
           simp only [Addr.add]
           by_cases h1 : k = 0 <;> by_cases h2 : i = 0 <;> simp [h1, h2, Nat.add_assoc]
         have rowsOf : ∀ (r j : Nat), j + r = len → ∃ rows : List PV, rows.length = r ∧ (∀ x ∈ rows, x.isAgg = e.isA ∧ HasF e x.cells) ∧ (r ≠ 0 → a.spot = none ∧ I a.block) ∧ RowsC I w rows (P.cellsOf u) a.block (a.off + j * P.cellsOf u) := by
           intro r
           induction r with
           | zero => intro j _; exact ⟨[], rfl, by simp, fun h => absurd rfl h, by simp only [RowsC]⟩
           | succ r ihr =>
             intro j hj
             obtain ⟨rows, l1, l2, _, l4⟩ := ihr (j + 1) (by omega)
             have hj2 : j < elems.length := by omega
             have hb := hel j (by omega)
             rw [List.getElem?_eq_getElem hj2] at hb
             obtain ⟨cs', hc, hy⟩ := Option.bind_eq_some_iff.1 hb
             obtain ⟨_, hcl, hcg⟩ := World.cells?_some hc
             obtain ⟨pcs, k1, k2⟩ := ih e u cs' _ hru hty hy (fun p hp => hI p (by
               simp only [List.mem_append, List.mem_flatMap]
               exact .inr ⟨elems[j], .inl (List.getElem_mem _), hp⟩))
             obtain ⟨x, x1, x2, x3⟩ := row_of (I := I) (w := w) k1
             have hspot := hspot0 (by omega)
             have hIa : I a.block := hI (.cell a.block a.off) (by
               simp only [List.mem_append]
               left
               exact MemPlace.mem_row.2 ⟨0, Nat.mul_pos (by omega) hpos, rfl⟩)
             refine ⟨x :: rows, by simp [l1], ?_, fun _ => ⟨hspot, hIa⟩, ?_⟩
             · intro y hy
               rcases List.mem_cons.1 hy with rfl | hy
               · exact ⟨x1, by rw [x2]; exact k1⟩
               · exact l2 y hy
             · simp only [RowsC]
               refine ⟨⟨cs', hcl, x3 _ k2, ?_⟩, ?_⟩
               · intro i v hi
                 have hi2 : i < P.cellsOf u := by rw [← hcl]; exact (List.getElem?_eq_some_iff.1 hi).1
                 have := hcg i hi2
                 rw [hi] at this
                 rw [← this, hadd hspot]
               · rw [Nat.add_assoc, show j * P.cellsOf u + P.cellsOf u = (j + 1) * P.cellsOf u by rw [Nat.add_mul, Nat.one_mul]]
                 exact l4
         obtain ⟨rows, l1, l2, l3, l4⟩ := rowsOf len 0 (by omega)
         refine ⟨[.data rows], ?_, ?_⟩
         · simp only [HasF]; exact ⟨rows, rfl, by omega, l2⟩
         · simp only [CellsC, RC]
           refine ⟨_, _, rfl, rfl, ⟨some a, len, cap, rfl, l1.symm, hle, hcap, ?_⟩, rfl⟩
           by_cases h0 : len = 0
           · left; exact List.eq_nil_of_length_eq_zero (by omega)
           · right
             obtain ⟨hs, hIa⟩ := l3 h0
             refine ⟨a.block, a.off, P.cellsOf u, ?_, hIa, hpos, by simpa using l4⟩
             cases a; simp only at hs; subst hs; rfl
     · cases hty
   | a l =>
     unfold tyOk at hty
     split at hty
     · rename_i fs ht
       obtain ⟨xs, m, hm, rfl, hcl, hxl, hxs⟩ := DataW.trod_struct ht h
       have hmn : m = n := by omega
       subst hmn
       obtain ⟨k1, k2, k3⟩ := K.struct hrow ht
       have := open_parts ih (l := l) (ts := fs.toList.map (·.type)) hty (fun t ht => by obtain ⟨f, hf, rfl⟩ := List.mem_map.1 ht; exact k1 f hf) (cs := cs) (xs := xs) (fun j => ((fs.toList.take j).map fun f => P.cellsOf f.type).sum)
         (fun j t hj => by
           rw [List.getElem?_map, Option.map_eq_some_iff] at hj
           obtain ⟨f, hf, rfl⟩ := hj
           obtain ⟨hlt, hf2⟩ := List.getElem?_eq_some_iff.1 hf
           show ((fs.toList.take (j + 1)).map _).sum = _
           rw [List.take_add_one, hf]
           simp)
         (by simp only [List.length_map, List.take_length]; rw [hcl, k2]; exact Nat.le_refl _)
         (fun j t hj => by
           rw [List.getElem?_map, Option.map_eq_some_iff] at hj
           obtain ⟨f, hf, rfl⟩ := hj
           have := hxs j f (by simpa using hf)
           rw [← this, k3 j f hf])
         (by simp [hxl]) hI (fs.toList.map (·.type)).length 0 (by omega)
       obtain ⟨pcs, p1, p2⟩ := this
       exact ⟨pcs, by simp only [HasF]; exact p1, by simpa using p2⟩
     · rename_i q u ht
       obtain ⟨xs, m, hm, rfl, hcl, hxl, hxs⟩ := DataW.trod_array ht h
       have hmn : m = n := by omega
       subst hmn
       obtain ⟨k1, k2⟩ := K.array hrow ht
       have := open_parts ih (l := l) (ts := List.replicate q u) hty (fun t ht => by rw [(List.mem_replicate.1 ht).2]; exact k1) (cs := cs) (xs := xs) (fun j => j * P.cellsOf u)
         (fun j t hj => by
           have : t = u := (List.mem_replicate.1 (List.mem_of_getElem? hj)).2
           subst this
           show (j + 1) * _ = _
           rw [Nat.add_mul, Nat.one_mul])
         (by rw [List.length_replicate, hcl, k2]; exact Nat.le_refl _)
         (fun j t hj => by
           have e : t = u := (List.mem_replicate.1 (List.mem_of_getElem? hj)).2
           subst e
           have hlt : j < q := by have := (List.getElem?_eq_some_iff.1 hj).1; simpa using this
           exact hxs j hlt)
         (by simp [hxl]) hI (List.replicate q u).length 0 (by omega)
       obtain ⟨pcs, p1, p2⟩ := this
       exact ⟨pcs, by simp only [HasF]; exact p1, by simpa using p2⟩
     · cases hty
end
end Go.Pf
namespace Go.Pf
open Go Go.ChangeShapes Go.WideShapes Go.ChangeAt Go.RowKit
def HasAs : List DS → List PV → Prop
 | [], az => az = []
 | d :: l, az => ∃ x r, az = x :: r ∧ x.isAgg = d.isA ∧ HasF d x.cells ∧ HasAs l r
section
variable {H : Type} {enc : TypeId × Value → H} {P : Program}
theorem open_arg (K : Kids P (· < P.types.size)) {w : World} {I : Nat → Prop} {base : Nat} {d : DS} {t : TypeId} {v : Value} {x : DataW H} {p : List MemPlace} (hrow : t < P.types.size) (hty : tyOk P d t = true)
   (hval : Value.okWide P w .any base t v) (h : DataW.Trod enc P w 0 (fun _ => true) true t v x p) (hI : ∀ q ∈ p, I q.block) :
   ∃ y : PV, y.isAgg = d.isA ∧ HasF d y.cells ∧ VP1 I w y v := by
 obtain ⟨n, hn⟩ := h
 obtain ⟨pcs, h1, h2⟩ := open_cells (I := I) K n d t _ _ hrow hty hn hI
 have single : ∀ y : PV, pcs = [y] → y.isAgg = false → d.isA = false → v.cells.toList = [v] → ∃ y : PV, y.isAgg = d.isA ∧ HasF d y.cells ∧ VP1 I w y v := by
   intro y e hy hd hv
   subst e
   refine ⟨y, hy.trans hd.symm, ?_, ?_⟩
   · have : y.cells = [y] := by cases y <;> first | rfl | cases hy
     rw [this]; exact h1
   · rw [hv] at h2
     simp only [CellsC] at h2
     obtain ⟨u, vr, e, _, h3, h4⟩ := h2
     simp only [List.cons.injEq] at e
     obtain ⟨rfl, _⟩ := e
     cases y <;> first | exact h3 | (simp only [RC] at h3; done) | (simp only [VP1]; exact h3) | cases hy
 cases d with
 | b =>
   unfold tyOk at hty
   split at hty
   · rename_i ht
     obtain ⟨b, rfl⟩ := okWide_bool ht hval
     simp only [HasF] at h1
     obtain ⟨z, e⟩ := h1
     exact single _ e rfl rfl rfl
   · cases hty
 | i k =>
   unfold tyOk at hty
   split at hty
   · rename_i q ht
     obtain ⟨m, rfl⟩ := okWide_int ht hval
     simp only [HasF] at h1
     obtain ⟨z, e, _⟩ := h1
     exact single _ e rfl rfl rfl
   · cases hty
 | s e =>
   unfold tyOk at hty
   split at hty
   · rename_i u ht
     obtain ⟨a, len, cap, rfl⟩ := okWide_slice ht hval
     simp only [HasF] at h1
     obtain ⟨z, e, _⟩ := h1
     exact single _ e rfl rfl rfl
   · cases hty
 | a l =>
   have key : ∀ cs, v = .agg cs → ∃ y : PV, y.isAgg = (DS.a l).isA ∧ HasF (DS.a l) y.cells ∧ VP1 I w y v := by
     rintro cs rfl
     refine ⟨.agg pcs, rfl, h1, ?_⟩
     simp only [VP1]
     exact ⟨cs.toList, rfl, h2⟩
   unfold tyOk at hty
   split at hty
   · rename_i fs ht
     obtain ⟨cs, e, _⟩ := okWide_struct ht hval
     exact key cs e
   · rename_i q u ht
     have hval2 := hval
     unfold Value.okWide at hval2
     rw [ht] at hval2
     obtain ⟨cs, e, _⟩ := hval2
     exact key cs e
   · cases hty
theorem open_args (K : Kids P (· < P.types.size)) {w : World} {I : Nat → Prop} {base : Nat} : ∀ (ts : List TypeId) (dss : List DS) (vs : List Value) (xs : List (DataW H)) (p : List MemPlace), tyL P dss ts = true → (∀ t ∈ ts, t < P.types.size) →
   (∀ (j : Nat) t v, ts[j]? = some t → vs[j]? = some v → Value.okWide P w .any base t v) → DataW.TrodAll enc P w 0 (fun _ => true) true ts vs xs p → (∀ q ∈ p, I q.block) → ∃ az, HasAs dss az ∧ VPs I w az vs
 | [], [], [], [], p, _, _, _, _, _ => ⟨[], by simp only [HasAs], by simp only [VPs]⟩
 | t :: ts, d :: dss, v :: vs, x :: xs, p, hty, hrow, hval, h, hI => by
   unfold tyL at hty
   simp only [Bool.and_eq_true] at hty
   obtain ⟨p1, q, h1, h2, rfl⟩ := h
   obtain ⟨y, y1, y2, y3⟩ := open_arg K (hrow t (List.mem_cons_self ..)) hty.1 (hval 0 t v rfl rfl) h1 (fun z hz => hI z (List.mem_append_left _ hz))
   obtain ⟨az, a1, a2⟩ := open_args K ts dss vs xs q hty.2 (fun u hu => hrow u (List.mem_cons_of_mem _ hu)) (fun j u z hj hz => hval (j + 1) u z hj hz) h2 (fun z hz => hI z (List.mem_append_right _ hz))
   refine ⟨y :: az, ?_, ?_⟩
   · simp only [HasAs]; exact ⟨y, az, rfl, y1, y2, a1⟩
   · simp only [VPs]; exact ⟨v, vs, rfl, y3, a2⟩
 | [], _ :: _, _, _, _, hty, _, _, _, _ => by unfold tyL at hty; cases hty
 | _ :: _, [], _, _, _, hty, _, _, _, _ => by unfold tyL at hty; cases hty
 | [], [], _ :: _, _, _, _, _, _, h, _ => h.elim
 | [], [], [], _ :: _, _, _, _, _, h, _ => h.elim
 | _ :: _, _ :: _, [], _, _, _, _, _, h, _ => h.elim
 | _ :: _, _ :: _, _ :: _, [], _, _, _, _, h, _ => h.elim
theorem law_calls (K : Kids P (· < P.types.size)) {n : FuncId} {fn : Func} {G : Nat → Option PV} {dss : List DS} {ts : List TypeId} (hty : tyL P dss ts = true) (hrow : ∀ t ∈ ts, t < P.types.size)
   (hf : P.funcs[n]? = some fn) (hn : (fn.name == "runtime.NumGoroutine") = false) (hb : fn.body.isSome = true) (hsum : ∀ az, HasAs dss az → SumOk P G n az (.bool true))
   {W : World} {base : Nat} {args : Array Value} {ds : List (DataW H)} {p : List MemPlace} {I : Nat → Prop} (hval : ∀ (j : Nat) t v, ts[j]? = some t → args.toList[j]? = some v → Value.okWide P W .any base t v)
   (hA : DataW.TrodAll enc P W 0 (fun _ => true) true ts args.toList ds p) (hI : ∀ q ∈ p, I q.block) (himm : ∀ b, I b → b < W.heap.size) (hG : GlobOk G I W) :
   Calls P n args W fun e W' => e = .returned (.bool true) ∧ Below W.heap.size W W' := by
 obtain ⟨az, a1, a2⟩ := open_args (I := I) K ts dss args.toList ds p hty hrow hval hA hI
 have h := hsum az a1 I W args.toList himm hG a2
 have e : (callFunc n (args.toList).toArray).run P W = .ok (.enter n args) W := by
   have h1 : fn.name ≠ "runtime.NumGoroutine" := by simpa using hn
   obtain ⟨c, hc⟩ := Option.isSome_iff_exists.1 hb
   simp [callFunc, hf, h1, hc]
 unfold CallR at h
 rw [e] at h
 refine Calls.mono h fun e w' he => ?_
 cases e with
 | returned v =>
   obtain ⟨h1, h2⟩ := he
   simp only [VP, VP1, RC, List.cons.injEq, and_true] at h2
   exact ⟨by rw [h2], h1.toBelow⟩
 | panicked ch => exact he.elim
 | outgrown => exact he.elim
theorem args_again (K : Kids P (· < P.types.size)) (hz : ∀ t e, t < P.types.size → P.underlying t = some (.slice e) → 0 < P.cellsOf e) {W W' : World} (hb : Below W.heap.size W W') {sp : Nat → Bool} :
   ∀ {ts : List TypeId} {vs : List Value} {ds : List (DataW H)} {ps : List MemPlace}, (∀ t ∈ ts, t < P.types.size) → DataW.TrodAll enc P W 0 (fun _ => true) true ts vs ds ps → (∀ p ∈ ps, p.block < W.heap.size) → (∀ p ∈ ps, sp p.block = true) → DataW.TrodAll enc P W' 0 sp true ts vs ds ps := by
 intro ts vs ds ps hT h hlt hs
 have carry : ∀ {ts : List TypeId} {vs : List Value} {ds : List (DataW H)} {ps : List MemPlace}, DataW.TrodAll enc P W 0 (fun _ => true) true ts vs ds ps → (∀ p ∈ ps, p.block < W.heap.size) → DataW.TrodAll enc P W' 0 (fun _ => true) true ts vs ds ps := by
   intro ts
   induction ts with
   | nil =>
     intro vs ds ps h _
     cases vs with
     | nil => cases ds with
       | nil => exact h
       | cons _ _ => exact h.elim
     | cons _ _ => exact h.elim
   | cons t ts ih =>
     intro vs ds ps h hlt
     cases vs with
     | nil => exact h.elim
     | cons v vs => cases ds with
       | nil => exact h.elim
       | cons d ds =>
         obtain ⟨p, q, ⟨n, h1⟩, h2, e⟩ := h
         subst e
         exact ⟨p, q, ⟨n, DataW.trod_carry n _ _ _ h1 (fun x hx => hb.same (hlt x (List.mem_append_left _ hx)))⟩, ih h2 (fun x hx => hlt x (List.mem_append_right _ hx)), rfl⟩
 exact DataW.TrodAll.respare K hz hT (carry h hlt) hs
theorem post_of_below' {f : Func} {s : ChangeSpec} {apart fresh handsOn again : Bool} {W W' : World} {args : Array Value} {v : Value} {ds gs : List (DataW H)} {before pa pv : List MemPlace}
   (hW : DataW.Whole enc P f.params.toList s.vars apart W args.toList ds gs before)
   (hres : ∀ (b : Nat) (sp : Nat → Bool) (hd : Bool), DataW.TrodAll enc P W' b sp hd f.resultTypes.toList (v.resultList f.resultTypes.size) (s.fn H (ds ++ gs)).results [])
   (hargs : ∀ sp : Nat → Bool, (∀ p ∈ before, sp p.block = true) → DataW.TrodAll enc P W' 0 sp true f.params.toList args.toList (s.fn H (ds ++ gs)).args pa)
   (hvars : ∀ sp : Nat → Bool, (∀ p ∈ before, sp p.block = true) → DataW.TrodVars enc P W' sp s.vars (s.fn H (ds ++ gs)).vars pv)
   (hps : before = pa ++ pv) (hb : Below W.heap.size W W')
   (hok : ∀ (j : Nat) (t : TypeId) (r : Value), f.resultTypes[j]? = some t → (v.resultList f.resultTypes.size)[j]? = some r → Value.okWide P W' .any 0 t r) :
   s.post enc P f apart fresh handsOn again W args v W' := by
 have hlt : ∀ p ∈ before, p.block < W.heap.size := fun p hp => hW.lt p hp
 have hold : ∀ p ∈ before, (fun b => decide (b < W.heap.size)) p.block = true := fun p hp => by simpa using hlt p hp
 refine ⟨ds, gs, before, [], pa, pv, hW, hres _ _ _, hargs _ hold, hvars _ hold, World.keptBut_mono (fun p hp => ⟨hp, ?_⟩) (hb.frame (· ∈ before)), fun _ => ?_⟩
 · rw [hps, List.mem_append] at hp
   exact Or.inr hp
 · obtain ⟨_, _, _, _, _, hz, hn⟩ := hW
   refine ⟨hok, _, _, ([] ++ pa) ++ pv, ⟨[] ++ pa, pv, trodAll_append (hargs _ (fun _ _ => rfl)) (hres _ _ _), hvars _ (fun _ _ => rfl), rfl, ?_, ?_⟩, ?_⟩
   · intro b off hp
     have hin : MemPlace.cell b off ∈ before := by rw [hps]; simpa using hp
     rw [hb.frozen (hlt _ hin)]
     exact hz b off hin
   · intro ha
     have := hn ha
     rw [hps] at this
     simpa using this
   · intro p hp _
     rw [hps]
     simpa using hp
theorem law_post (K : Kids P (· < P.types.size)) (hz : ∀ t e, t < P.types.size → P.underlying t = some (.slice e) → 0 < P.cellsOf e) {n : FuncId} {fn : Func} {G : Nat → Option PV} {dss : List DS} {s : ChangeSpec} {bt : TypeId}
   (hty : tyL P dss fn.params.toList = true) (hrow : ∀ t ∈ fn.params.toList, t < P.types.size) (hf : P.funcs[n]? = some fn) (hn : (fn.name == "runtime.NumGoroutine") = false) (hb : fn.body.isSome = true)
   (hvars : s.vars = []) (hfn : ∀ ds : List (DataW H), ds.length = fn.params.toList.length → s.fn H (ds ++ []) = { results := [.lit (.bool true)], args := ds })
   (hrt : fn.resultTypes.toList = [bt]) (hbt : P.underlying bt = some .bool) (hsum : ∀ az, HasAs dss az → SumOk P G n az (.bool true)) {apart fresh handsOn again : Bool}
   {W : World} {base : Nat} {args : Array Value} {ds gs : List (DataW H)} {before : List MemPlace} (hval : ∀ (j : Nat) t v, fn.params[j]? = some t → args[j]? = some v → Value.okWide P W .any base t v)
   (hW : DataW.Whole enc P fn.params.toList s.vars apart W args.toList ds gs before) (J : Nat → Prop) (hJ : ∀ b, J b → b < W.heap.size) (hG : GlobOk G (fun b => (∃ p ∈ before, p.block = b) ∨ J b) W) :
   Calls P n args W fun e W' => ∃ v, e = .returned v ∧ s.post enc P fn apart fresh handsOn again W args v W' := by
 have hW' := hW
 obtain ⟨p, q, hA, hV, hpq, hfz, hnd⟩ := hW
 have hlt : ∀ x ∈ before, x.block < W.heap.size := fun x hx => hW'.lt x hx
 rw [hvars] at hV
 obtain ⟨hgs, hq⟩ := trodVars_none hV
 subst hgs; subst hq
 rw [List.append_nil] at hpq
 subst hpq
 have hlen : ds.length = fn.params.toList.length := by
   have len : ∀ {ts : List TypeId} {vs : List Value} {xs : List (DataW H)} {ps : List MemPlace}, DataW.TrodAll enc P W 0 (fun _ => true) true ts vs xs ps → xs.length = ts.length := by
     intro ts
     induction ts with
     | nil =>
       intro vs xs ps h
       cases vs with
       | nil => cases xs with
         | nil => rfl
         | cons _ _ => exact h.elim
       | cons _ _ => exact h.elim
     | cons t ts ih =>
       intro vs xs ps h
       cases vs with
       | nil => exact h.elim
       | cons v vs => cases xs with
         | nil => exact h.elim
         | cons x xs =>
           obtain ⟨_, _, _, h2, _⟩ := h
           simp [ih h2]
   exact len hA
 have hc := law_calls (I := fun b => (∃ x ∈ before, x.block = b) ∨ J b) K hty hrow hf hn hb hsum (W := W) (base := base) (args := args) (fun j t v h1 h2 => hval j t v (by simpa using h1) (by simpa using h2)) hA (fun x hx => .inl ⟨x, hx, rfl⟩)
   (fun b hb => by
     rcases hb with ⟨x, hx, rfl⟩ | hb
     · exact hlt x hx
     · exact hJ b hb) hG
 refine hc.mono fun e W' ⟨he, hg⟩ => ?_
 subst he
 have hrs : fn.resultTypes = #[bt] := by rw [← Array.toList_inj]; exact hrt
 refine ⟨_, rfl, post_of_below' (pa := before) (pv := []) hW' ?_ ?_ ?_ (by simp) hg ?_⟩
 · intro b sp hd
   rw [hfn ds hlen, hrs]
   exact trodAll_mk1 (shut_bool hbt true)
 · intro sp hs
   rw [hfn ds hlen]
   exact args_again K hz hg hrow hA hlt hs
 · intro sp hs
   rw [hfn ds hlen, hvars]; rfl
 · intro j t r h1 h2
   rw [hrs] at h1 h2
   have hj : j = 0 := by
     rcases j with _ | j
     · rfl
     · simp at h1
   subst hj
   simp at h1
   subst h1
   have : r = .bool true := by
     have h3 : ((Value.bool true).resultList (#[bt] : Array TypeId).size)[0]? = some (.bool true) := rfl
     rw [h3] at h2
     exact (Option.some.inj h2).symm
   subst this
   exact okWide_bool_mk hbt true
end
end Go.Pf
namespace Go.Pf
open Go
abbrev EffF : Type := Nat → List PV → Hp → Option (Bool × Bool × (PV × Hp) × (PV × Hp))
def lookE : List (Nat × EffF) → EffF
 | [], _, _, _ => none
 | (k, e) :: r, n, xs, H => bif Nat.beq n k then (match e n xs H with | some x => some x | none => lookE r n xs H) else lookE r n xs H
theorem lookE_sound {P : Program} {E : Env} : ∀ {l : List (Nat × EffF)}, (∀ e ∈ l, InlineOk P E (fun n xs H => armOf (e.2 n xs H))) → InlineOk P E (fun n xs H => armOf (lookE l n xs H))
 | [], _ => fun _ _ _ _ _ h => by cases h
 | (k, e) :: r, h => by
   intro f args H q H' hc
   dsimp only [lookE] at hc
   cases hb : Nat.beq f k with
   | false =>
     rw [hb, cond_false] at hc
     exact lookE_sound (fun e2 h2 => h e2 (List.mem_cons_of_mem _ h2)) f args H q H' hc
   | true =>
     rw [hb, cond_true] at hc
     cases he : e f args H with
     | some x =>
       rw [he] at hc
       refine h (k, e) List.mem_cons_self f args H q H' ?_
       dsimp only
       rw [he]
       exact hc
     | none =>
       rw [he] at hc
       exact lookE_sound (fun e2 h2 => h e2 (List.mem_cons_of_mem _ h2)) f args H q H' hc
def baseS (add sub : Nat) (tab : List (Nat × AFn)) (qui : List Nat) (cl : Clones) (gl : List (Nat × PV)) (ef : List (Nat × EffF)) : Env := { baseC add sub tab qui cl gl with eff := lookE ef }
theorem baseS_none {add sub : Nat} {tab : List (Nat × AFn)} {qui : List Nat} {cl : Clones} {gl : List (Nat × PV)} {ef : List (Nat × EffF)} {n : Nat} (h : special add sub cl n = false) (xs : List PV) : (baseS add sub tab qui cl gl ef).sum n xs = none := baseC_none (tab := tab) (qui := qui) (gl := gl) h xs
theorem baseS_ok {P : Program} {add sub : Nat} {tab : List (Nat × AFn)} {qui : List Nat} {cl : Clones} {gl : List (Nat × PV)} {ef : List (Nat × EffF)} (h : EnvOk P (baseC add sub tab qui cl gl))
   (hs : ∀ e ∈ ef, ∀ y, InlineOk P ((baseC add sub tab qui cl gl).ats y) (fun n xs H => armOf (e.2 n xs H))) : EnvOk P (baseS add sub tab qui cl gl ef) where
 sum := h.sum
 fns := h.fns
 eff := EnvOk.eff' (E := baseC add sub tab qui cl gl) (E' := baseS add sub tab qui cl gl ef) rfl rfl rfl fun y _ => lookE_sound fun e he => hs e he y
 dn := h.dn
 top := h.top
 yl := h.yl' (E' := baseS add sub tab qui cl gl ef) rfl rfl rfl rfl
end Go.Pf
namespace Go.Pf
abbrev lt {α : Type} (x : α) (f : α → Prop) : Prop := f x
abbrev jn {α : Type} (f : α → Prop) (k : α) : Prop := f k
structure EffG (E : List (Nat × EffF) → Env) (nums : List Nat) (e : List (Nat × EffF)) : Prop where
 ok : EffOk (E e)
 num : ∀ n, memN nums n = false → ∀ xs H, (E e).eff n xs H = none
theorem clone_okS {add sub : Nat} {tab : List (Nat × AFn)} {qui : List Nat} {cl : Clones} {gl : List (Nat × PV)} {ef : List (Nat × EffF)} {n esz bytes : Nat} (h1 : Nat.beq n add = false) (h2 : Nat.beq n sub = false) (hc : cloneAt cl n = some (esz, bytes)) :
   ∀ az K, wp_clone esz bytes az K → ∃ r, K r ∧ Ans (baseS add sub tab qui cl gl ef) n az r := by
 intro az K h
 unfold wp_clone pw_clone at h
 split at h
 · rename_i rows
   obtain ⟨hk, h⟩ := asr_iff.1 h
   refine ⟨_, h, 0, fun k e m _ hl _ => ?_⟩
   have hl := (like_fns hl).2.1
   simp only [pureRes, hl, baseS, baseC, sumC_none h1 h2, cloneSum_at cl hc hk]
 · exact h.elim
theorem add64_okS {add sub : Nat} {tab : List (Nat × AFn)} {qui : List Nat} {cl : Clones} {gl : List (Nat × PV)} {ef : List (Nat × EffF)} : ∀ az K, wp_m_Add64 az K → ∃ r, K r ∧ Ans (baseS add sub tab qui cl gl ef) add az r := by
 intro az K h
 unfold wp_m_Add64 pw_m_Add64 at h
 split at h
 · rename_i a b c
   obtain ⟨h1, h⟩ := asr_iff.1 h
   have h1 : c.toNat ≤ 1 := by simpa using h1
   refine ⟨_, h, 0, fun k e m _ hl _ => ?_⟩
   have hl := (like_fns hl).2.1
   have e0 : sumC add sub add [.int .u64 a, .int .u64 b, .int .u64 c] = some (.tup [u64 ((a.toNat + b.toNat + c.toNat) % 18446744073709551616), u64 ((a.toNat + b.toNat + c.toNat) / 18446744073709551616)]) := by
     simp only [sumC, Nat.beq_refl, Bool.true_and, Nat.ble_eq_true_of_le h1, cond_true]
   simp only [pureRes, hl, baseS, baseC, e0, u64]
 · exact h.elim
theorem sub64_okS {add sub : Nat} (hne : Nat.beq sub add = false) {tab : List (Nat × AFn)} {qui : List Nat} {cl : Clones} {gl : List (Nat × PV)} {ef : List (Nat × EffF)} : ∀ az K, wp_m_Sub64 az K → ∃ r, K r ∧ Ans (baseS add sub tab qui cl gl ef) sub az r := by
 intro az K h
 unfold wp_m_Sub64 pw_m_Sub64 at h
 split at h
 · rename_i a b c
   obtain ⟨h1, h⟩ := asr_iff.1 h
   have h1 : c.toNat ≤ 1 := by simpa using h1
   refine ⟨_, h, 0, fun k e m _ hl _ => ?_⟩
   have hl := (like_fns hl).2.1
   have e0 : sumC add sub sub [.int .u64 a, .int .u64 b, .int .u64 c] = some (.tup [u64 ((a.toNat + 18446744073709551616 - b.toNat - c.toNat) % 18446744073709551616), u64 (bif Nat.ble (b.toNat + c.toNat) a.toNat then 0 else 1)]) := by
     simp only [sumC, hne, Nat.beq_refl, Bool.true_and, Bool.false_and, Nat.ble_eq_true_of_le h1, cond_true, cond_false]
   simp only [pureRes, hl, baseS, baseC, e0, u64]
 · exact h.elim
end Go.Pf
namespace Go.Pf
abbrev Es : Type := List (Nat × EffF)
end Go.Pf
namespace Go.Pf
def okB : Option Bool → Prop | none => True | some b => b = true
def asB : Option Bool → Prop → Prop | none, x => x | some b, x => asr b x
theorem asB_iff {g : Option Bool} {x : Prop} : asB g x ↔ okB g ∧ x := by cases g <;> simp [asB, okB, asr_iff]
def blen (H : Hp) (id : Nat) : Nat := match H[id]? with | some b => b.rows.length | none => 0
structure Pat (α : Type) where
 T : Type
 A : Type → Type
 app : {R : Type} → A R → T → R
 of : (Nat → Nat) → T → α
 get : (Nat → Nat) → α → Option Bool → Option (T × Option Bool)
 inv : ∀ {H x g t g'}, get H x g = some (t, g') → okB g' → okB g ∧ x = of H t
section
variable {α β : Type}
def pAt : Pat α := ⟨α, fun R => α → R, fun g t => g t, fun _ t => t, fun _ x g => some (x, g), fun h k => by cases h; exact ⟨k, rfl⟩⟩
def pCst (c : α) (f : α → Bool) (h : ∀ x, f x = true → x = c) : Pat α :=
 ⟨Unit, fun R => R, fun g _ => g, fun _ _ => c, fun _ x g => bif f x then some ((), g) else none, fun {H x g t g'} e k => by
   cases hf : f x with
   | true => rw [hf] at e; cases e; exact ⟨k, h _ hf⟩
   | false => rw [hf] at e; cases e⟩
def pSub (m : β → α) (s : α → Option β) (h : ∀ x b, s x = some b → x = m b) (p : Pat β) : Pat α :=
 ⟨p.T, p.A, p.app, fun H t => m (p.of H t), fun H x g => match s x with | none => none | some b => p.get H b g, fun {H x g t g'} e k => by
   cases hs : s x with
   | none => rw [hs] at e; cases e
   | some b =>
     rw [hs] at e
     obtain ⟨h1, h2⟩ := p.inv e k
     exact ⟨h1, by rw [h _ _ hs, h2]⟩⟩
def pPr (p : Pat α) (q : Pat β) : Pat (α × β) :=
 ⟨p.T × q.T, fun R => p.A (q.A R), fun g t => q.app (p.app g t.1) t.2, fun H t => (p.of H t.1, q.of H t.2),
  fun H x g => match p.get H x.1 g with | none => none | some (a, g1) => (match q.get H x.2 g1 with | none => none | some (b, g2) => some ((a, b), g2)), fun {H x g t g'} e k => by
   cases h1 : p.get H x.1 g with
   | none => rw [h1] at e; cases e
   | some y =>
     obtain ⟨a, g1⟩ := y
     rw [h1] at e
     simp only at e
     cases h2 : q.get H x.2 g1 with
     | none => rw [h2] at e; cases e
     | some z =>
       obtain ⟨b, g2⟩ := z
       rw [h2] at e
       cases e
       obtain ⟨k2, e2⟩ := q.inv h2 k
       obtain ⟨k1, e1⟩ := p.inv h1 k2
       exact ⟨k1, Prod.ext e1 e2⟩⟩
end
def nK (n : Nat) : Pat Nat := pCst n (fun x => Nat.beq x n) fun _ h => Nat.eq_of_beq_eq_true h
def nT (id : Nat) : Pat Nat :=
 ⟨Unit, fun R => R, fun g _ => g, fun H _ => H id, fun H x g => some ((), match g with | none => some (decide (x = H id)) | some b => some (b && decide (x = H id))), fun {H x g t g'} e k => by
   cases e
   cases g with
   | none => exact ⟨trivial, of_decide_eq_true k⟩
   | some b =>
     have k : (b && decide (x = H id)) = true := k
     simp only [Bool.and_eq_true, decide_eq_true_eq] at k
     exact ⟨k.1, k.2⟩⟩
abbrev nV : Pat Nat := pAt
abbrev LPt : Type 1 := Pat (List PV)
abbrev VPt : Type 1 := Pat PV
def vI (k : IntKind) : VPt := pSub (.int k) (fun x => match x with | .int q n => bif decide (q = k) then some n else none | _ => none) (fun x b h => by
 split at h
 · rename_i q n
   by_cases e : q = k
   · subst e; rw [decide_eq_true rfl] at h; cases h; rfl
   · rw [decide_eq_false e] at h; cases h
 · cases h) pAt
def vB : VPt := pSub .bool (fun x => match x with | .bool b => some b | _ => none) (fun x b h => by cases x <;> cases h; rfl) pAt
def vDl (p : LPt) : VPt := pSub .data (fun x => match x with | .data b => some b | _ => none) (fun x b h => by cases x <;> cases h; rfl) p
def vD : VPt := vDl pAt
def vA (p : LPt) : VPt := pSub .agg (fun x => match x with | .agg b => some b | _ => none) (fun x b h => by cases x <;> cases h; rfl) p
def vNs : VPt := pCst .nils (fun x => match x with | .nils => true | _ => false) fun x h => by cases x <;> cases h; rfl
def vP (id o : Nat) (e i : Pat Nat) : VPt := pSub (fun b => .ptr id b.1 b.2 o) (fun x => match x with | .ptr a e i f => bif Nat.beq a id && Nat.beq f o then some (e, i) else none | _ => none) (fun x b h => by
 split at h
 · rename_i a e i f
   cases hc : (Nat.beq a id && Nat.beq f o) with
   | false => rw [hc] at h; cases h
   | true =>
     rw [hc] at h
     simp only [Bool.and_eq_true] at hc
     cases h
     rw [Nat.eq_of_beq_eq_true hc.1, Nat.eq_of_beq_eq_true hc.2]
 · cases h) (pPr e i)
def vX (o : Nat) (p : VPt) : VPt := pSub (fun b => .eptr [b] 0 o) (fun x => match x with | .eptr [y] i f => bif Nat.beq i 0 && Nat.beq f o then some y else none | _ => none) (fun x b h => by
 split at h
 · rename_i y i f
   cases hc : (Nat.beq i 0 && Nat.beq f o) with
   | false => rw [hc] at h; cases h
   | true =>
     rw [hc] at h
     simp only [Bool.and_eq_true] at hc
     cases h
     rw [Nat.eq_of_beq_eq_true hc.1, Nat.eq_of_beq_eq_true hc.2]
 · cases h) p
def vO (id : Nat) (lo len ext c : Pat Nat) : VPt := pSub (fun b => .own id b.1 b.2.1 b.2.2.1 (some b.2.2.2)) (fun x => match x with | .own a lo len ext (some c) => bif Nat.beq a id then some (lo, len, ext, c) else none | _ => none) (fun x b h => by
 split at h
 · rename_i a lo len ext c
   cases hc : Nat.beq a id with
   | false => rw [hc] at h; cases h
   | true => rw [hc] at h; cases h; rw [Nat.eq_of_beq_eq_true hc]
 · cases h) (pPr lo (pPr len (pPr ext c)))
def vW (id : Nat) (lo len ext : Pat Nat) : VPt := pSub (fun b => .own id b.1 b.2.1 b.2.2 none) (fun x => match x with | .own a lo len ext none => bif Nat.beq a id then some (lo, len, ext) else none | _ => none) (fun x b h => by
 split at h
 · rename_i a lo len ext
   cases hc : Nat.beq a id with
   | false => rw [hc] at h; cases h
   | true => rw [hc] at h; cases h; rw [Nat.eq_of_beq_eq_true hc]
 · cases h) (pPr lo (pPr len ext))
def vF (n : Nat) (p q : LPt) : VPt := pSub (fun b => .fn (.func n) b.1 b.2) (fun x => match x with | .fn (.func k) a b => bif Nat.beq k n then some (a, b) else none | _ => none) (fun x b h => by
 split at h
 · rename_i k a b
   cases hc : Nat.beq k n with
   | false => rw [hc] at h; cases h
   | true => rw [hc] at h; cases h; rw [Nat.eq_of_beq_eq_true hc]
 · cases h) (pPr p q)
def lN : LPt := pCst [] (fun x => match x with | [] => true | _ :: _ => false) fun x h => by cases x <;> cases h; rfl
def lC (p : VPt) (q : LPt) : LPt := pSub (fun b => b.1 :: b.2) (fun x => match x with | y :: r => some (y, r) | [] => none) (fun x b h => by cases x <;> cases h; rfl) (pPr p q)
def fN : Pat Frm := pCst [] (fun x => match x with | [] => true | _ :: _ => false) fun x h => by cases x <;> cases h; rfl
def fV (s : Nat) (p : VPt) (q : Pat Frm) : Pat Frm := pSub (fun b => (s, .v b.1) :: b.2) (fun x => match x with | (k, .v y) :: r => bif Nat.beq k s then some (y, r) else none | _ => none) (fun x b h => by
 split at h
 · rename_i k y r
   cases hc : Nat.beq k s with
   | false => rw [hc] at h; cases h
   | true => rw [hc] at h; cases h; rw [Nat.eq_of_beq_eq_true hc]
 · cases h) (pPr p q)
def fX (s : Nat) (p : VPt) (q : Pat Frm) : Pat Frm := pSub (fun b => (s, .box b.1) :: b.2) (fun x => match x with | (k, .box y) :: r => bif Nat.beq k s then some (y, r) else none | _ => none) (fun x b h => by
 split at h
 · rename_i k y r
   cases hc : Nat.beq k s with
   | false => rw [hc] at h; cases h
   | true => rw [hc] at h; cases h; rw [Nat.eq_of_beq_eq_true hc]
 · cases h) (pPr p q)
def rhN : Pat Hp := pCst [] (fun x => match x with | [] => true | _ :: _ => false) fun x h => by cases x <;> cases h; rfl
def rhB (fz pu : Bool) (esz : Nat) (p : LPt) (q : Pat Hp) : Pat Hp := pSub (fun b => ⟨fz, pu, esz, b.1⟩ :: b.2) (fun x => match x with | ⟨a, b, c, rows⟩ :: r => bif (a == fz) && ((b == pu) && Nat.beq c esz) then some (rows, r) else none | [] => none) (fun x b h => by
 split at h
 · rename_i a b c rows r
   cases hc : ((a == fz) && ((b == pu) && Nat.beq c esz)) with
   | false => rw [hc] at h; cases h
   | true =>
     rw [hc] at h
     simp only [Bool.and_eq_true, beq_iff_eq] at hc
     cases h
     rw [hc.1, hc.2.1, Nat.eq_of_beq_eq_true hc.2.2]
 · cases h) (pPr p q)
structure RPt where
 p : LPt
 n : ∀ r r' t, (p.of r t).length = (p.of r' t).length
structure HPt where
 p : Pat Hp
 n : ∀ r r' t id, blen (p.of r t) id = blen (p.of r' t) id
def rA : RPt := ⟨pAt, fun _ _ _ => rfl⟩
def rN : RPt := ⟨lN, fun _ _ _ => rfl⟩
def rC (p : VPt) (q : RPt) : RPt := ⟨lC p q.p, fun r r' t => congrArg (· + 1) (q.n r r' t.2)⟩
def hN : HPt := ⟨rhN, fun _ _ _ _ => rfl⟩
def hB (fz pu : Bool) (esz : Nat) (p : RPt) (q : HPt) : HPt := ⟨rhB fz pu esz p.p q.p, fun r r' t id => by
 cases id with
 | zero => exact p.n r r' t.1
 | succ k => exact q.n r r' t.2 k⟩
abbrev Sta : Type := Hp × Frm × Frm
abbrev r0 : Nat → Nat := fun _ => 0
def pS (h : HPt) (p o : Pat Frm) : Pat Sta :=
 ⟨h.p.T × p.T × o.T, fun R => h.p.A (p.A (o.A R)), fun g t => o.app (p.app (h.p.app g t.1) t.2.1) t.2.2, fun _ t => (h.p.of (blen (h.p.of r0 t.1)) t.1, p.of (blen (h.p.of r0 t.1)) t.2.1, o.of (blen (h.p.of r0 t.1)) t.2.2),
  fun _ x g => match h.p.get (blen x.1) x.1 g with | none => none | some (a, g1) => (match p.get (blen x.1) x.2.1 g1 with | none => none | some (b, g2) => (match o.get (blen x.1) x.2.2 g2 with | none => none | some (c, g3) => some ((a, b, c), g3))), fun {H x g t g'} e k => by
   obtain ⟨X, Y, Z⟩ := x
   cases h1 : h.p.get (blen X) X g with
   | none => simp only [h1] at e; cases e
   | some y =>
     obtain ⟨a, g1⟩ := y
     simp only [h1] at e
     cases h2 : p.get (blen X) Y g1 with
     | none => rw [h2] at e; cases e
     | some z =>
       obtain ⟨b, g2⟩ := z
       rw [h2] at e
       simp only at e
       cases h3 : o.get (blen X) Z g2 with
       | none => rw [h3] at e; cases e
       | some w =>
         obtain ⟨c, g3⟩ := w
         rw [h3] at e
         cases e
         obtain ⟨k3, e3⟩ := o.inv h3 k
         obtain ⟨k2, e2⟩ := p.inv h2 k3
         obtain ⟨k1, e1⟩ := h.p.inv h1 k2
         refine ⟨k1, ?_⟩
         show (X, Y, Z) = (h.p.of (blen (h.p.of r0 a)) a, p.of (blen (h.p.of r0 a)) b, o.of (blen (h.p.of r0 a)) c)
         have e4 : blen (h.p.of r0 a) = blen X := funext fun id => by
           rw [h.n r0 (blen X) a id, ← e1]
         rw [e4, ← e1, ← e2, ← e3]⟩
structure St where
 p : Pat Sta
 g : Nat → p.A Prop
def runS : List St → Nat → Sta → Prop
 | [], _, _ => False
 | s :: r, n, x => match s.p.get r0 x none with | some (t, b) => asB b (s.p.app (s.g n) t) | none => runS r n x
def runE : List St → Sta → Prop
 | [], _ => False
 | s :: r, x => match s.p.get r0 x none with | some (t, b) => asB b (∃ n, s.p.app (s.g n) t) | none => runE r x
theorem runE_n {x : Sta} : ∀ {L : List St}, runE L x → ∃ n, runS L n x
 | [], h => h.elim
 | s :: r, h => by
   unfold runE at h
   unfold runS
   split at h
   · rename_i t b e
     obtain ⟨hb, n, h⟩ := asB_iff.1 h
     exact ⟨n, asB_iff.2 ⟨hb, h⟩⟩
   · obtain ⟨n, h⟩ := runE_n h
     exact ⟨n, h⟩
theorem runS_mem {x : Sta} {n : Nat} : ∀ {L : List St}, runS L n x → ∃ s, s ∈ L ∧ ∃ t, x = s.p.of r0 t ∧ s.p.app (s.g n) t
 | [], h => h.elim
 | s :: r, h => by
   unfold runS at h
   split at h
   · rename_i t b e
     obtain ⟨hb, h⟩ := asB_iff.1 h
     exact ⟨s, List.mem_cons_self, t, (s.p.inv e hb).2, h⟩
   · obtain ⟨s', h1, h2⟩ := runS_mem h
     exact ⟨s', List.mem_cons_of_mem _ h1, h2⟩
def bodS (gc : Bool) (L : List St) (n : Nat) (G : Frm) (k : Nat) (F' : Frm) (H' : Hp) : Prop := runS L n (bif gc then gcH F' k H' else H', F', G)
def AllB (E : Env) (callK : CK) (lp : LP) (yk : Frm → YK) (b : TCode) (gc : Bool) (Q : Qx) (L : List St) : List St → Prop
 | [] => True
 | s :: r => (∀ t, s.p.app (s.g 0) t = False) ∧ (∀ n t, WC E callK lp (s.p.of r0 t).2.2 (yk (s.p.of r0 t).2.2) b (s.p.of r0 t).2.1 (s.p.of r0 t).1 (exQ (bodS gc L n (s.p.of r0 t).2.2 (s.p.of r0 t).1.length) Q) = s.p.app (s.g (n + 1)) t) ∧ AllB E callK lp yk b gc Q L r
theorem AllB.mem {E : Env} {callK : CK} {lp : LP} {yk : Frm → YK} {b : TCode} {gc : Bool} {Q : Qx} {L : List St} : ∀ {l : List St}, AllB E callK lp yk b gc Q L l → ∀ s ∈ l, (∀ t, s.p.app (s.g 0) t = False) ∧ (∀ n t, WC E callK lp (s.p.of r0 t).2.2 (yk (s.p.of r0 t).2.2) b (s.p.of r0 t).2.1 (s.p.of r0 t).1 (exQ (bodS gc L n (s.p.of r0 t).2.2 (s.p.of r0 t).1.length) Q) = s.p.app (s.g (n + 1)) t)
 | [], _, s, h => by cases h
 | x :: r, h, s, hs => by
   rcases List.mem_cons.1 hs with rfl | hs
   · exact ⟨h.1, h.2.1⟩
   · exact AllB.mem h.2.2 s hs
section
variable {E : Env} {callK : CK} {P : EP} {lp : LP} {yk : Frm → YK} {b : TCode} {Q : Qx} {L : List St} {id : Nat} {F G : Frm} {H : Hp}
theorem LoopT.st (hP : Sub P E) (hG : Good P callK) (hY : YOk P E (yk G)) (hl : LpOk P E lp G b) (hb : AllB E callK lp yk b false Q L L) (h : runE L (H, F, G)) (hf : flatC b = true := by kernel_rfl) : LoopT P (.loop id b) F H Q := by
 obtain ⟨n, h⟩ := runE_n h
 refine LoopT.intro (id := id) hP hG hf hY hl (fun n F H => runS L n (H, F, G)) (fun F H h => ?_) (fun n F H h => ?_) n F H h
 · obtain ⟨s, hs, t, _, h⟩ := runS_mem h
   rw [(hb.mem s hs).1 t] at h
   exact h
 · obtain ⟨s, hs, t, e, h⟩ := runS_mem h
   rw [← (hb.mem s hs).2 n t, ← e] at h
   exact h
end
abbrev BodOk (S : SE) (d : Nat) (yk : Frm → YK) (b : TCode) (gc : Bool) (L : Qx → List St) : Prop := ∀ Q, AllB S.E (callW S d) S.lp yk b gc Q (L Q) (L Q)
abbrev yk0 : Frm → YK := fun _ => noYK
abbrev LpT (P : EP) (lp : LP) (G : Frm) (id : Nat) (c : TCode) : Prop := ∀ F H Q, lp id G F H Q → LoopT P c F H Q
def lpS : List (Nat × (Qx → List St)) → LP
 | [], _, _, _, _, _ => False
 | p :: r, id, G, F, H, Q => bif Nat.beq id p.1 then runE (p.2 Q) (H, F, G) else lpS r id G F H Q
structure Sg where
 p : LPt
 R : Type
 k : (PV → Prop) → R
abbrev Sg.W (s : Sg) : Type := s.p.A (s.R → Prop)
def Sg.pw (s : Sg) (w : s.W) (az : List PV) (K : PV → Prop) : Prop := match s.p.get r0 az none with | some (t, b) => asB b (s.p.app w t (s.k K)) | none => False
def sE (E : Env) (l : List (Nat × (List PV → (PV → Prop) → Prop))) (lp : LP) : SE := ⟨E, lookS l, lookI [], lp, fun _ => none⟩
def lp0 : LP := fun _ _ _ _ _ => False
def EqW (S : SE) (d : Nat) (t : TFn) (s : Sg) (w : s.W) : Prop := ∀ a K, WP S d t (s.p.of r0 a) K = s.p.app w a (s.k K)
theorem Sg.inv {s : Sg} {w : s.W} {az : List PV} {K : PV → Prop} (h : s.pw w az K) : ∃ a, az = s.p.of r0 a ∧ s.p.app w a (s.k K) := by
 unfold Sg.pw at h
 split at h
 · rename_i t b e
   obtain ⟨hb, h⟩ := asB_iff.1 h
   exact ⟨t, (s.p.inv e hb).2, h⟩
 · exact h.elim
theorem okW {P : EP} {S : SE} {d n : Nat} {t : TFn} {s : Sg} {w : s.W} (hq : EqW S d t s w) (hS : SEOk P S) (hR : RngOk P S.E (callW S d) t.body) (hl : LpOk P S.E S.lp [] t.body) (hs : ∀ az, S.E.sum n az = none) (he : ∀ az H, S.E.eff n az H = none) (hf : S.E.fns n = some t.fn) (hu : S.E.qui n = true) (hn : S.E.nl n = false) : ∀ az K, s.pw w az K → ∃ r, K r ∧ AnsP P n az r := fun az K h => by
 obtain ⟨a, e, k⟩ := Sg.inv h
 subst e
 rw [← hq a K] at k
 exact WP_ok hS hR hl hf hu hs he k hn
end Go.Pf
namespace Go.Pf.Vc
open Go Go.Pf
def n_r02_Great : Nat := 22
def n_r04_GreatCakes : Nat := 10
def n_r02_Check : Nat := 18
def n_r04_Check : Nat := 11
def n_l09_fit : Nat := 4
def n_r01_Of : Nat := 12
def n_l09_three : Nat := 13
def n_s_Min_int_int : Nat := 51
def n_s_Max_int_int : Nat := 52
def n_cake_Check : Nat := 33
def n_ask_Check : Nat := 23
def n_s_Clone_int_int : Nat := 50
def n_ask_copied : Nat := 32
def n_ask_Open : Nat := 19
def n_halve_whole : Nat := 20
def n_ratio_size : Nat := 37
def n_ratio_gcd : Nat := 40
def n_ratio_Check : Nat := 54
def n_cmp_Or_api_Errno : Nat := 53
def n_ratio_check : Nat := 34
def n_cmp_isNaN_int64 : Nat := 55
def n_cmp_Compare_int64 : Nat := 35
def n_m_Mul64 : Nat := 36
def n_cmp_isNaN_uint64 : Nat := 56
def n_cmp_Compare_uint64 : Nat := 39
def n_cmp_Or_int : Nat := 38
def n_ratio_Cmp : Nat := 24
def n_halve_order : Nat := 25
def n_ratio_signed : Nat := 41
def n_ratio_Make : Nat := 26
def n_ask_office_has : Nat := 57
def n_cake_Total : Nat := 58
def n_ask_Total : Nat := 42
def n_cake_whole : Nat := 84
def n_cake_less : Nat := 83
def n_cake_point : Nat := 82
def n_m_Add64 : Nat := 92
def n_m_Sub64 : Nat := 93
def n_m_Len64 : Nat := 49
def n_m_LeadingZeros64 : Nat := 96
def n_m_Div64 : Nat := 95
def n_m_Rem64 : Nat := 94
def n_ratio_Add : Nat := 86
def n_ratio_Sub : Nat := 85
def n_ratio_Mul : Nat := 44
def n_cake_Value : Nat := 73
def n_ask_office_value : Nat := 60
def n_ask_office_ask : Nat := 59
def n_ask_Value : Nat := 43
def n_ratio_Div : Nat := 89
def n_cake_Mark_1 : Nat := 88
def n_cake_walk : Nat := 87
def n_cake_Mark : Nat := 74
def n_ask_office_mark : Nat := 61
def n_ask_Mark : Nat := 45
def n_halve_mark : Nat := 27
def n_slices_insertionSortCmpFunc_halve_half : Nat := 62
def n_slices_stableCmpFunc_halve_half : Nat := 46
def n_s_SortStableFunc_halve_half_halve_half : Nat := 28
def n_halve_Split_1 : Nat := 29
def n_m_Len32 : Nat := 48
def n_m_Len : Nat := 31
def n_cmp_isNaN_int : Nat := 81
def n_cmp_Less_int : Nat := 70
def n_slices_insertionSortOrdered_int : Nat := 64
def n_slices_pdqsortOrdered_int : Nat := 47
def n_s_Sort_int_int : Nat := 30
def n_halve_Split : Nat := 14
def n_halve_Run : Nat := 7
def n_halve_Bound : Nat := 15
def n_l09_between : Nat := 16
def n_r03_Same : Nat := 21
def n_r06_Same : Nat := 8
def n_r09_Same : Nat := 17
def n_l09_alive : Nat := 5
def n_r02_Normal : Nat := 6
def n_r04_SameLogs : Nat := 9
def n_l09_HalveSame : Nat := 3
def zF (d s : Nat) (o : AOp) : AOper := ⟨some d, o, some (s, false)⟩
def zT (d s : Nat) (o : AOp) : AOper := ⟨some d, o, some (s, true)⟩
def zS (n : Nat) (a x : Opd) : AOper := ⟨none, .store n a x, none⟩
def zR : Nat → Nat → List Nat
 | _, 0 => []
 | a, n + 1 => a :: zR (a + 1) n
def zQ : TCode → TCode → TCode := .seq
def zC : Opd → TCode → TCode → TCode := .cond
def zB : Nat → TCode → TCode := .block
abbrev zI : Sh := .one (.i .i64)
abbrev zD : Sh := .one .d
abbrev z2 : Sh := .agg [.i .i64, .i .i64]
abbrev z4 : Sh := .agg [.i .i64, .i .i64, .i .i64, .i .i64]
abbrev zK : Sh := .agg [.i .i64, .d, .d]
abbrev zE : Sh := .agg [.d, .d]
def opKey (o : AOper) : Nat :=
  match o.dst with
  | some d => d
  | none => (match o.op with | .store _ (.t a) _ => a + 100000 | _ => 999999)
def anF : List (Sh × Nat × List Nat) → Nat → Option (Sh × Nat)
  | [], _ => none
  | (s, m, l) :: r, k => bif memN l k then some (s, m) else anF r k
def anL (tb : List (Sh × Nat × List Nat)) : Nat → List AOper → List An
  | _, [] => []
  | i, o :: r => (match anF tb (opKey o) with | some (s, m) => ⟨i, s, m⟩ :: anL tb (i + 1) r | none => anL tb (i + 1) r)
def annT (tb : List (Sh × Nat × List Nat)) (lps : List (Nat × Nat)) : Nat → ACode → TCode
  | _, .skip => .skip
  | _, .ops l ps fg => .ops l (anL tb 0 l) ps fg
  | k, .seq a b => .seq (annT tb lps k a) (annT tb lps k b)
  | k, .cond c a b => .cond c (annT tb lps k a) (annT tb lps k b)
  | _, .block id b => .block id (annT tb lps id b)
  | k, .loop b => .loop ((lps.lookup k).getD 0) (annT tb lps k b)
  | k, .loopG b => .loopG ((lps.lookup k).getD 0) (annT tb lps k b)
  | _, .exit id => .exit id
  | _, .ret => .ret
  | _, .bad => .bad
  | _, .rangeF g ps az bd => .cut (.rangeF g ps az bd)
  | _, .yret c pre d y args e fgt => .cut (.yret c pre d y args e fgt)
theorem erase_annT (tb : List (Sh × Nat × List Nat)) (lps : List (Nat × Nat)) : ∀ (c : ACode) (k : Nat), erase (annT tb lps k c) = c
  | .skip, _ => rfl
  | .ops _ _ _, _ => rfl
  | .seq a b, k => by simp only [annT, erase, erase_annT tb lps a, erase_annT tb lps b]
  | .cond _ a b, k => by simp only [annT, erase, erase_annT tb lps a, erase_annT tb lps b]
  | .block _ b, k => by simp only [annT, erase, erase_annT tb lps b]
  | .loop b, k => by simp only [annT, erase, erase_annT tb lps b]
  | .loopG b, k => by simp only [annT, erase, erase_annT tb lps b]
  | .exit _, _ => rfl
  | .ret, _ => rfl
  | .bad, _ => rfl
  | .rangeF .., _ => rfl
  | .yret .., _ => rfl
def tfn (tb : List (Sh × Nat × List Nat)) (lps : List (Nat × Nat)) : Option AFn → TFn
  | some f => ⟨f.nparams, f.results, annT tb lps 999999 f.body⟩
  | none => ⟨0, [], .bad⟩
theorem tfn_fn {tb : List (Sh × Nat × List Nat)} {lps : List (Nat × Nat)} {o : Option AFn} (h : o.isSome = true) : o = some (tfn tb lps o).fn := by
  cases o with
  | none => cases h
  | some f => simp only [tfn, TFn.fn, erase_annT]
def bodAt (t : TFn) (id : Nat) : TCode :=
  match (loopsOf t.body).lookup id with
  | some (.loop _ b) => b
  | some (.loopG _ b) => b
  | _ => .skip
def rg : Nat → Nat → List Nat
  | a, 0 => [a]
  | a, n + 1 => a :: rg (a + 1) n
def xp : List Nat → List Nat
  | a :: b :: r => bif Nat.blt 5000 b then rg a (b - 5000) ++ xp r else a :: xp (b :: r)
  | l => l
def tl (tb : List (Sh × Nat × List Nat)) (lps : List (Nat × Nat)) (loc : List Nat) (fg : List (Nat × List Nat)) (f : Func) : TFn := tfn tb lps (compFn Proofs.Try.prog loc (fun i => xp ((fg.lookup i).getD [])) f)
theorem tl_fn {tb : List (Sh × Nat × List Nat)} {lps : List (Nat × Nat)} {loc : List Nat} {fg : List (Nat × List Nat)} {f : Func} (h : (compFn Proofs.Try.prog loc (fun i => xp ((fg.lookup i).getD [])) f).isSome = true) : compFn Proofs.Try.prog loc (fun i => xp ((fg.lookup i).getD [])) f = some (tl tb lps loc fg f).fn := tfn_fn h
def t_r02_Great : TFn := tl [(zK, 0, [4, 9])] [] [1] [(1, [1, 3, 5009]), (0, [0, 2])] Proofs.Try.f22
def t_r04_GreatCakes : TFn := tl [(zK, 0, [12, 13])] [(0, 4277600)] [] [(6, [0, 3, 7, 15, 16, 17]), (3, [8, 9, 14]), (5, [0, 3, 14]), (4, [7, 10, 5003]), (2, [4, 5, 6]), (0, [2])] Proofs.Try.f10
def b_4277600 : TCode := bodAt t_r04_GreatCakes 4277600
def t_r02_Check : TFn := tl [(zK, 0, [6, 10, 15, 19, 25, 28, 35, 42, 44, 50, 55, 61, 67, 74, 82, 91]), (zI, 0, [36, 37, 47, 48, 64, 65, 69, 70, 76, 77, 84, 85, 93, 94])] [(0, 94526800)] [1] [(14, [98]), (13, [98]), (12, [1, 3, 4, 57, 97]), (8, [58, 59]), (11, [87, 5009]), (10, [1, 3, 4, 87]), (9, [57, 60, 5026]), (7, [53, 5003]), (5, [52]), (4, [1, 52]), (3, [13, 5038]), (2, [1, 13]), (1, [5, 5007]), (0, [0, 2])] Proofs.Try.f18
def b_94526800 : TCode := bodAt t_r02_Check 94526800
def t_r04_Check : TFn := tl [(zE, 0, [6, 11, 16, 21, 27, 34, 41, 47, 53]), (zK, 0, [29, 30, 36, 37, 49, 51, 54, 56])] [(0, 6981300), (2, 6981301)] [1] [(15, [1, 4, 43]), (12, [44, 45, 57]), (14, [1, 4, 57]), (13, [43, 46, 5010]), (11, [39, 5003]), (10, [3, 23]), (7, [24, 25, 32]), (9, [1, 3, 32, 5006]), (8, [23, 26, 5005]), (6, [19, 5003]), (5, [18]), (4, [1, 18]), (3, [14, 5003]), (2, [1, 14]), (1, [5, 5008]), (0, [0, 2])] Proofs.Try.f11
def b_6981300 : TCode := bodAt t_r04_Check 6981300
def b_6981301 : TCode := bodAt t_r04_Check 6981301
def t_l09_fit : TFn := tl [] [] [] [(1, [0, 3, 5008]), (0, [2])] Proofs.Try.f4
def t_r01_Of : TFn := tl [] [] [2] [(1, [0, 3, 4])] Proofs.Try.f12
def t_l09_three : TFn := tl [] [] [1, 2, 4, 5, 7, 8] [(1, [1, 5009]), (0, [0])] Proofs.Try.f13
def t_s_Min_int_int : TFn := tl [(zI, 0, [10, 11, 21, 22])] [(0, 10434000)] [] [(8, [0, 3, 4, 15, 24]), (6, [16, 17]), (7, [15, 18, 5005]), (5, [12, 13, 14]), (3, [7, 9, 10, 11]), (2, [7, 8]), (1, [5, 6]), (0, [2])] Proofs.Try.f51
def b_10434000 : TCode := bodAt t_s_Min_int_int 10434000
def t_s_Max_int_int : TFn := tl [(zI, 0, [10, 11, 21, 22])] [(0, 64079100)] [] [(8, [0, 3, 4, 15, 24]), (6, [16, 17]), (7, [15, 18, 5005]), (5, [12, 13, 14]), (3, [7, 9, 10, 11]), (2, [7, 8]), (1, [5, 6]), (0, [2])] Proofs.Try.f52
def b_64079100 : TCode := bodAt t_s_Max_int_int 64079100
def t_cake_Check : TFn := tl [(zK, 0, [6, 9, 16, 24, 32, 39, 45, 54, 59, 67, 72, 78]), (zI, 0, [33, 34, 42, 43, 56, 57, 62, 63])] [(0, 87419700)] [1] [(14, [81]), (13, [81]), (12, [1, 49, 50, 51, 66, 5014]), (11, [64, 65]), (10, [1, 49, 50, 64]), (9, [4, 53, 5010]), (8, [51, 52]), (6, [3, 47, 48]), (5, [1, 3, 47]), (4, [14, 5032]), (3, [1, 3, 14]), (2, [8, 5005]), (1, [5, 6, 7]), (0, [0, 2])] Proofs.Try.f33
def b_87419700 : TCode := bodAt t_cake_Check 87419700
def t_ask_Check : TFn := tl [(zE, 0, [9, 14, 19, 23, 36, 45]), (zK, 0, [27, 28, 40, 41, 43, 46, 48])] [(0, 12157600), (2, 12157601)] [1, 4, 7] [(18, [1, 36, 5003]), (17, [49, 50]), (16, [1, 36, 37, 38, 49]), (15, [7, 42, 5006]), (14, [39, 40, 41]), (12, [23, 5003, 35]), (11, [5, 32, 34]), (10, [1, 5, 23, 24, 25, 32, 33]), (9, [31]), (8, [4, 29, 30]), (7, [26, 27, 28]), (5, [21, 22]), (4, [1, 21]), (3, [17, 5003]), (2, [1, 17]), (1, [8, 5008]), (0, [0, 2])] Proofs.Try.f23
def b_12157600 : TCode := bodAt t_ask_Check 12157600
def b_12157601 : TCode := bodAt t_ask_Check 12157601
def t_s_Clone_int_int : TFn := tl [] [] [] [(3, [0, 4, 5003]), (2, [0, 4]), (1, [3]), (0, [2])] Proofs.Try.f50
def t_ask_copied : TFn := tl [(zK, 0, [10, 11, 14, 16, 19])] [(0, 94933800)] [22, 5] [(7, [3, 6, 5003, 25]), (6, [24]), (5, [5, 12, 5011]), (4, [9, 10, 11]), (2, [0]), (0, [2])] Proofs.Try.f32
def b_94933800 : TCode := bodAt t_ask_copied 94933800
def t_ask_Open : TFn := tl [] [] [2] [(4, [0, 4, 9, 12, 13, 14]), (3, [0, 4, 9, 10, 11]), (2, [8]), (1, [5, 6, 7]), (0, [3])] Proofs.Try.f19
def t_halve_whole : TFn := tl [] [] [2] [(1, [0, 3, 4])] Proofs.Try.f20
def t_ratio_size : TFn := tl [] [] [] [(3, [0, 4, 8, 9]), (2, [0, 4, 5003]), (1, [3]), (0, [2])] Proofs.Try.f37
def t_ratio_gcd : TFn := tl [] [(0, 32725300)] [] [(3, [0, 1, 6, 11]), (2, [6, 5004]), (1, [5]), (0, [4])] Proofs.Try.f40
def b_32725300 : TCode := bodAt t_ratio_gcd 32725300
def t_ratio_Check : TFn := tl [(z2, 0, [4, 8, 11, 18, 21])] [] [1] [(3, [25]), (2, [25]), (1, [1, 3, 5021]), (0, [0, 2])] Proofs.Try.f54
def t_cmp_Or_api_Errno : TFn := tl [(zI, 0, [10, 11])] [(0, 38508400)] [] [(8, [3, 6, 5003, 17]), (7, [5, 14, 16]), (6, [3, 5, 5003, 14, 15]), (5, [12, 13]), (4, [9, 10, 11]), (2, [0]), (0, [2])] Proofs.Try.f53
def b_38508400 : TCode := bodAt t_cmp_Or_api_Errno 38508400
def t_ratio_check : TFn := tl [] [] [9, 2, 3] [(1, [2, 3, 5, 5005]), (0, [0, 1, 4])] Proofs.Try.f34
def t_cmp_isNaN_int64 : TFn := tl [] [] [] [(1, [0, 3, 4, 5]), (0, [2])] Proofs.Try.f55
def t_cmp_Compare_int64 : TFn := tl [] [] [] [(13, [19]), (12, [19]), (11, [0, 1, 16, 17, 18]), (10, [0, 1, 16]), (9, [13, 14, 15]), (8, [0, 1, 13]), (7, [6, 11]), (6, [12]), (5, [12]), (4, [0, 1, 6, 11]), (3, [5]), (2, [9, 10]), (1, [7, 8]), (0, [4])] Proofs.Try.f35
def t_m_Mul64 : TFn := tl [] [] [] [(11, [0, 1, 48, 49, 50]), (10, [7, 9, 12, 13, 40, 5007]), (9, [6, 35, 5004]), (8, [11, 33, 34]), (7, [31, 32]), (6, [8, 10, 25, 5005]), (5, [22, 23, 24]), (4, [20, 21]), (3, [18, 19]), (2, [16, 17]), (1, [14, 15]), (0, [4, 5])] Proofs.Try.f36
def t_cmp_isNaN_uint64 : TFn := tl [] [] [] [(1, [0, 3, 4, 5]), (0, [2])] Proofs.Try.f56
def t_cmp_Compare_uint64 : TFn := tl [] [] [] [(13, [19]), (12, [19]), (11, [0, 1, 16, 17, 18]), (10, [0, 1, 16]), (9, [13, 14, 15]), (8, [0, 1, 13]), (7, [6, 11]), (6, [12]), (5, [12]), (4, [0, 1, 6, 11]), (3, [5]), (2, [9, 10]), (1, [7, 8]), (0, [4])] Proofs.Try.f39
def t_cmp_Or_int : TFn := tl [(zI, 0, [10, 11])] [(0, 53260600)] [] [(8, [3, 6, 5003, 17]), (7, [5, 14, 16]), (6, [3, 5, 5003, 14, 15]), (5, [12, 13]), (4, [9, 10, 11]), (2, [0]), (0, [2])] Proofs.Try.f38
def b_53260600 : TCode := bodAt t_cmp_Or_int 53260600
def t_ratio_Cmp : TFn := tl [(z2, 0, [19, 22, 26, 28, 32, 35, 42, 45, 59])] [] [56, 2, 3] [(11, [11, 60, 63]), (10, [60, 61, 62]), (9, [2, 58, 59]), (8, [7, 5003, 50, 5007]), (7, [3, 40, 5009]), (6, [24, 30, 5009]), (5, [2, 3, 24, 5005]), (4, [6, 16, 18, 5005]), (3, [2, 3, 6, 16, 17]), (2, [15]), (1, [12, 13, 14]), (0, [0, 1, 4, 5])] Proofs.Try.f24
def t_halve_order : TFn := tl [] [] [2, 3] [(2, [5, 13]), (1, [2, 3, 6, 5006]), (0, [0, 1, 4])] Proofs.Try.f25
def t_ratio_signed : TFn := tl [] [] [6] [(5, [1, 2, 13, 20, 5004]), (4, [1, 2, 13, 5006]), (3, [0, 11]), (2, [0, 1, 2, 11, 12]), (1, [8, 9, 10]), (0, [7])] Proofs.Try.f41
def t_ratio_Make : TFn := tl [] [] [4] [(5, [0, 1, 6, 7, 8, 19, 5013]), (4, [16, 17, 18]), (3, [10, 12, 5003]), (2, [0, 1, 10, 11]), (1, [9]), (0, [5])] Proofs.Try.f26
def t_ask_office_has : TFn := tl [(zE, 0, [11])] [] [2] [(1, [1, 2, 5, 5009]), (0, [0, 4])] Proofs.Try.f57
def t_cake_Total : TFn := tl [(zK, 0, [14, 24, 30]), (zI, 0, [19, 20, 27, 28, 32, 33])] [(0, 45203600)] [1] [(10, [1, 5, 14, 5003, 38]), (9, [37]), (8, [6, 7, 21, 5015]), (7, [17, 5003]), (5, [13]), (4, [4, 11]), (3, [1, 4, 11, 12]), (2, [10]), (1, [8, 9]), (0, [0, 2, 3])] Proofs.Try.f58
def b_45203600 : TCode := bodAt t_cake_Total 45203600
def t_ask_Total : TFn := tl [(zE, 0, [18]), (zK, 0, [20, 21])] [] [2] [(6, [1, 2, 16, 5008]), (5, [1, 2, 16]), (4, [6, 10, 12, 5003]), (3, [1, 2, 6, 10, 11]), (2, [9]), (1, [7, 8]), (0, [0, 4, 5])] Proofs.Try.f42
def t_cake_whole : TFn := tl [] [] [2] [(1, [0, 3, 4])] Proofs.Try.f84
def t_cake_less : TFn := tl [] [] [2, 3] [(2, [5, 13, 14]), (1, [2, 3, 6, 5006]), (0, [0, 1, 4])] Proofs.Try.f83
def t_cake_point : TFn := tl [(z2, 0, [10]), (zK, 0, [15])] [] [2, 3] [(1, [2, 3, 5, 5015]), (0, [0, 1, 4])] Proofs.Try.f82
def t_m_Len64 : TFn := tl [] [] [] [(10, [0, 14, 19, 5005]), (9, [17, 18]), (8, [14, 15, 16]), (7, [8, 13]), (6, [11, 12]), (5, [8, 9, 10]), (4, [4, 7]), (2, [2, 4, 5, 6]), (1, [3])] Proofs.Try.f49
def t_m_LeadingZeros64 : TFn := tl [] [] [] [(1, [0, 3, 4, 5]), (0, [2])] Proofs.Try.f96
def t_m_Div64 : TFn := tl [] [(0, 60530100), (2, 60530101)] [] [(28, [2, 8, 9, 10, 14, 5004, 113, 120, 5014]), (27, [119]), (26, [116, 117, 118]), (25, [113, 114, 115]), (24, [102, 5010, 120]), (23, [97, 5004]), (22, [94, 95, 96]), (21, [11, 13, 16, 78, 85, 5008]), (20, [84]), (19, [81, 82, 83]), (18, [78, 79, 80]), (17, [67, 5010, 85]), (16, [62, 5004]), (15, [59, 60, 61]), (14, [12, 57, 58]), (13, [55, 56]), (12, [1, 52, 53, 54]), (11, [0, 44, 5007]), (10, [42, 43]), (9, [40, 41]), (8, [37, 38, 39]), (7, [27, 34, 35, 36]), (6, [0, 1, 2, 27, 5006]), (5, [24, 26]), (4, [24, 25]), (3, [20, 22, 23]), (2, [20, 21]), (1, [19]), (0, [6, 7])] Proofs.Try.f95
def b_60530100 : TCode := bodAt t_m_Div64 60530100
def b_60530101 : TCode := bodAt t_m_Div64 60530101
def t_m_Rem64 : TFn := tl [] [] [] [(2, [8, 18]), (1, [0, 1, 2, 7, 9, 5008]), (0, [6])] Proofs.Try.f94
def t_ratio_Add : TFn := tl [(z2, 0, [29, 32, 37, 40, 49, 52, 60, 63, 66, 140, 145])] [] [2, 3, 4] [(26, [12, 17, 20, 153, 155, 5005]), (25, [12, 17, 20, 153, 154]), (24, [19, 152]), (23, [2, 3, 7, 16, 138, 5013]), (22, [13, 14, 18, 129, 131, 5006]), (21, [2, 3, 7, 12, 13, 14, 16, 129, 130]), (20, [127, 128]), (19, [119, 121, 5005]), (18, [2, 3, 7, 12, 13, 14, 119, 120]), (17, [114, 5004]), (16, [8, 10, 15, 107, 5006]), (15, [9, 11, 94, 101, 5005]), (14, [99, 100]), (13, [94, 5004]), (12, [68, 82, 5011]), (11, [8, 10, 15, 75, 5006]), (10, [9, 11, 68, 5006]), (9, [62, 5005]), (8, [13, 14, 15]), (7, [59, 60, 61]), (6, [47, 5011]), (5, [35, 5011]), (4, [6, 25, 28, 5006]), (3, [2, 3, 6, 25, 26, 27]), (2, [24]), (1, [21, 22, 23]), (0, [0, 1, 5])] Proofs.Try.f86
def t_ratio_Sub : TFn := tl [(z2, 0, [15, 100017])] [] [2, 3, 4] [(5, [2, 3, 18, 5004]), (4, [6, 11, 14, 5003]), (3, [2, 3, 6, 11, 12, 13]), (2, [10]), (1, [7, 8, 9]), (0, [0, 1, 5])] Proofs.Try.f85
def t_ratio_Mul : TFn := tl [(z2, 0, [25, 28, 31, 34, 71, 74])] [] [2, 3, 4] [(10, [2, 3, 14, 16, 65, 67, 5015]), (9, [2, 3, 14, 16, 65, 66]), (8, [13, 15, 62, 63, 64]), (7, [8, 10, 11, 12, 52, 5009]), (6, [7, 9, 42, 5009]), (5, [36, 5005]), (4, [6, 21, 24, 5011]), (3, [2, 3, 6, 21, 22, 23]), (2, [20]), (1, [17, 18, 19]), (0, [0, 1, 5])] Proofs.Try.f44
def t_cake_Value : TFn := tl [(zK, 0, [42, 50]), (zI, 0, [47, 48, 53, 54])] [(0, 85339800)] [3, 4, 5, 6, 9, 10, 13, 14, 16] [(28, [3, 5, 9, 10, 42, 5003, 105]), (27, [13, 70, 104]), (26, [13, 15, 100, 103]), (25, [3, 5, 9, 10, 13, 15, 42, 43, 44, 100, 101, 102]), (24, [99]), (23, [16, 90, 93, 5005]), (22, [3, 5, 9, 10, 13, 15, 16, 42, 43, 44, 90, 91, 92]), (21, [89]), (20, [12, 14, 79, 82, 5006]), (19, [3, 5, 9, 10, 12, 5003, 42, 43, 44, 79, 80, 81]), (18, [78]), (17, [67, 72, 5005]), (16, [13, 70, 71]), (15, [12, 67, 68, 69]), (14, [58, 60, 5006]), (13, [58, 59]), (12, [56, 57]), (11, [11, 49, 5006]), (10, [45, 5003]), (8, [41]), (7, [4, 40]), (6, [37, 39]), (5, [3, 4, 5, 37, 38]), (4, [8, 20, 23, 5013]), (3, [3, 4, 5, 8, 20, 21, 22]), (2, [19]), (1, [17, 18]), (0, [0, 1, 2, 7])] Proofs.Try.f73
def b_85339800 : TCode := bodAt t_cake_Value 85339800
def t_ask_office_value : TFn := tl [(zE, 0, [12]), (zK, 0, [14, 15])] [] [4, 6, 7, 8] [(1, [1, 4, 6, 7, 10, 5010]), (0, [0, 2, 3, 9])] Proofs.Try.f60
def t_ask_office_ask : TFn := tl [(zE, 0, [14, 46, 55, 61, 66]), ((.agg [.i .i64, .i .u8, .i .i64, .i .i64, .i .i64, .i .i64, .i .i64, .i .i64]), 0, [23, 31, 33, 35, 100052])] [] [69, 3, 4, 6, 7, 10] [(13, [3, 4, 10, 12, 59, 5013]), (12, [53, 5005]), (11, [48, 51, 52]), (10, [3, 4, 10, 48, 49, 50]), (9, [11, 40, 44, 5003]), (8, [3, 4, 10, 11, 40, 5003]), (7, [39]), (6, [2, 25, 28, 5010]), (5, [2, 3, 4, 25, 26, 27]), (4, [9, 17, 21, 5003]), (3, [2, 3, 4, 9, 17, 5003]), (2, [16]), (1, [13, 14, 15]), (0, [0, 1, 8])] Proofs.Try.f59
def t_ask_Value : TFn := tl [] [] [4, 6, 7, 8, 9, 11] [(2, [1, 6, 7, 11, 14, 5010]), (1, [4, 12, 13]), (0, [0, 2, 3, 10])] Proofs.Try.f43
def t_ratio_Div : TFn := tl [(z2, 0, [16, 21, 25, 28, 36, 38])] [] [2, 3, 4] [(8, [2, 3, 19, 34, 5008]), (7, [2, 3, 19, 23, 5010]), (6, [14, 20, 21, 22]), (5, [2, 3, 14, 18]), (4, [6, 11, 15, 16, 17]), (3, [2, 3, 6, 11, 12, 13]), (2, [10]), (1, [7, 8, 9]), (0, [0, 1, 5])] Proofs.Try.f89
def t_cake_Mark_1 : TFn := tl [] [] [7, 8, 9, 12, 14] [(12, [5, 6, 7, 14, 15, 41, 48]), (11, [6, 7, 14, 41, 5006]), (10, [40]), (9, [3, 4, 9, 20, 33, 5006]), (8, [5, 13, 29, 31, 32]), (7, [5, 29, 30]), (6, [28]), (5, [4, 12, 27]), (4, [3, 6, 7, 9, 20, 5006]), (3, [17, 18, 19]), (2, [3, 5004, 9, 17]), (1, [16]), (0, [0, 1, 2, 8, 11])] Proofs.Try.f88
def t_cake_walk : TFn := tl [(zK, 0, [14, 22]), (zI, 0, [19, 20, 25, 26])] [(0, 41613500)] [3, 4, 9, 10, 11] [(18, [2, 3, 4, 14, 5003]), (17, [8, 9, 31, 61]), (16, [9, 59, 60]), (15, [2, 3, 4, 9, 14, 15, 16, 59]), (14, [8, 10, 12, 34, 52, 54, 5004]), (13, [2, 3, 4, 8, 9, 10, 12, 14, 15, 16, 52, 53]), (12, [51]), (11, [11, 42, 44, 5006]), (10, [2, 3, 4, 8, 5004, 14, 15, 16, 42, 43]), (9, [41]), (8, [34, 5006]), (7, [33]), (6, [31, 32]), (5, [28, 29, 30]), (4, [7, 21, 5006]), (3, [17, 5003]), (1, [13]), (0, [0, 1, 6])] Proofs.Try.f87
def b_41613500 : TCode := bodAt t_cake_walk 41613500
def t_cake_Mark : TFn := tl [(z2, 0, [23, 29, 34, 48]), (zI, 0, [44, 47, 100010])] [] [3, 4, 6] [(15, [9, 10, 45, 48]), (14, [9, 10, 45, 46, 47]), (13, [11, 42, 44]), (12, [11, 42, 43]), (11, [41]), (10, [3, 4, 5, 37, 5003]), (8, [35]), (7, [3, 4, 5, 35, 36]), (6, [31, 33, 34]), (5, [3, 4, 5, 31, 32]), (4, [8, 15, 18, 5012]), (3, [3, 4, 5, 8, 15, 16, 17]), (2, [14]), (1, [12, 13]), (0, [0, 1, 2, 7])] Proofs.Try.f74
def t_ask_office_mark : TFn := tl [(zE, 0, [12]), (zK, 0, [14, 15])] [] [4, 6, 7, 8] [(1, [1, 4, 6, 7, 10, 5010]), (0, [0, 2, 3, 9])] Proofs.Try.f61
def t_ask_Mark : TFn := tl [] [] [4, 6, 7, 8, 9, 11] [(2, [1, 6, 7, 11, 14, 5010]), (1, [4, 12, 13]), (0, [0, 2, 3, 10])] Proofs.Try.f45
def t_halve_mark : TFn := tl [(z2, 0, [28]), (zE, 0, [33]), (zK, 0, [34, 36])] [] [5, 7, 8, 9, 10, 11, 15] [(9, [1, 5, 7, 14, 15, 59, 63, 5007]), (8, [1, 5, 7, 14, 15, 59, 5003]), (7, [9, 51, 58]), (6, [9, 51, 5006]), (5, [8, 40, 50]), (4, [8, 40, 5009]), (3, [24, 5015]), (2, [13, 22, 23]), (1, [16, 5005]), (0, [0, 2, 3, 4, 12])] Proofs.Try.f27
def t_slices_insertionSortCmpFunc_halve_half : TFn := tl [((.agg [.i .i64, .i .i64, .i .i64]), 0, [25, 26, 30, 31, 45, 46, 49, 50, 51, 52, 100051, 100052])] [(0, 44419401), (2, 44419400)] [] [(2, [9, 15, 16, 34]), (5, [35, 36]), (6, [34, 37, 5015]), (4, [18, 5015]), (3, [14, 17]), (1, [12, 13]), (0, [10, 11])] Proofs.Try.f62
def b_44419400 : TCode := bodAt t_slices_insertionSortCmpFunc_halve_half 44419400
def b_44419401 : TCode := bodAt t_slices_insertionSortCmpFunc_halve_half 44419401
def t13 : Opd := .t 13
def t14 : Opd := .t 14
def t15 : Opd := .t 15
def t16 : Opd := .t 16
def t17 : Opd := .t 17
def b_34804800 : TCode := (zQ (zQ (oQ [M 11 8, M 12 1, oX 13 .leq 11 12] [11, 12]) (zC t13 .skip (.exit 0))) (zB 1 (.cut (.seq (.ops [M 14 0, M 15 7, M 16 8, M 17 2, O 18 (.call (.f n_slices_insertionSortCmpFunc_halve_half) [t14, t15, t16, t17])] [] [7, 13, 14, 15, 16, 17, 18]) (.seq (.ops [M 19 8, M 7 19] [] [19]) (.ops [M 20 8, M 21 6, oX 22 .add 20 21, M 8 22] [] [20, 21, 22]))))))
def t30 : Opd := .t 30
def t31 : Opd := .t 31
def t35 : Opd := .t 35
def t36 : Opd := .t 36
def t37 : Opd := .t 37
def t40 : Opd := .t 40
def t41 : Opd := .t 41
def t42 : Opd := .t 42
def t46 : Opd := .t 46
def t54 : Opd := .t 54
def t55 : Opd := .t 55
def t56 : Opd := .t 56
def t57 : Opd := .t 57
def t58 : Opd := .t 58
def t59 : Opd := .t 59
def t61 : Opd := .t 61
def b_34804802 : TCode := (zQ (zQ (oQ [M 28 6, M 29 1, oX 30 .lss 28 29] [28, 29]) (zC t30 .skip (.exit 2))) (zB 3 (.cut (.seq (.ops [M 31 6, O 32 (.bin .mul (I 2) t31), O 7 (.mv (I 0)), M 8 32] [] [30, 31, 32]) (.seq (.block 4 (.loop (.seq (.seq (.ops [M 33 8, M 34 1, oX 35 .leq 33 34] [] [33, 34]) (.cond t35 .skip (.exit 4))) (.block 5 (.seq (.ops [M 36 0, M 37 7, M 38 7, M 39 6, oX 40 .add 38 39, M 41 8, M 42 2, O 43 (.call (.f 63) [t36, t37, t40, t41, t42])] [] [7, 35, 36, 37, 38, 39, 40, 41, 42, 43]) (.seq (.ops [M 44 8, M 7 44] [] [44]) (.ops [M 45 8, M 46 6, O 47 (.bin .mul (I 2) t46), oX 48 .add 45 47, M 8 48] [] (zR 45 4)))))))) (.seq (.seq (.ops [M 49 7, M 50 6, oX 51 .add 49 50, M 9 51] [] [8, 35, 49, 50, 51]) (.seq (.ops [M 52 9, M 53 1, oX 54 .lss 52 53] [] [52, 53]) (.cond t54 (.ops [M 55 0, M 56 7, M 57 9, M 58 1, M 59 2, O 60 (.call (.f 63) [t55, t56, t57, t58, t59])] [] [7, 9, 54, 55, 56, 57, 58, 59, 60]) .skip))) (.ops [M 61 6, O 62 (.bin .mul t61 (I 2)), M 6 62] [] [7, 9, 54, 61, 62])))))))
def t23 : Opd := .t 23
def t24 : Opd := .t 24
def t25 : Opd := .t 25
def t26 : Opd := .t 26
def t_slices_stableCmpFunc_halve_half : TFn := ⟨3, [], (zQ (oQ [O 6 (.mv (I 20))] []) (zQ (oQ [M 10 6, O 7 (.mv (I 0)), M 8 10] [10]) (zQ (zB 0 (.loop 34804800 b_34804800)) (zQ (oQ [M 23 0, M 24 7, M 25 1, M 26 2, O 27 (.call (.f n_slices_insertionSortCmpFunc_halve_half) [t23, t24, t25, t26])] [7, 8, 13, 23, 24, 25, 26, 27]) (zB 2 (.loop 34804802 b_34804802))))))⟩
def t_s_SortStableFunc_halve_half_halve_half : TFn := tl [] [] [] [(0, [0, 1, 4, 5004])] Proofs.Try.f28
def t_halve_Split_1 : TFn := tl [((.agg [.i .i64, .i .i64, .i .i64]), 0, [6, 8])] [] [2, 3] [(1, [2, 3, 5, 5004]), (0, [0, 1, 4])] Proofs.Try.f29
def t_m_Len32 : TFn := tl [] [] [] [(7, [0, 8, 13, 5005]), (6, [11, 12]), (5, [8, 9, 10]), (4, [4, 7]), (2, [2, 4, 5, 6]), (1, [3])] Proofs.Try.f48
def t_m_Len : TFn := tl [] [] [] [(2, [0, 6, 7]), (1, [0, 3, 4, 5]), (0, [2])] Proofs.Try.f31
def t_cmp_isNaN_int : TFn := tl [] [] [] [(1, [0, 3, 4, 5]), (0, [2])] Proofs.Try.f81
def t_cmp_Less_int : TFn := tl [] [] [] [(1, [0, 1, 5, 5011]), (0, [4])] Proofs.Try.f70
def t_slices_insertionSortOrdered_int : TFn := tl [(zI, 0, [22, 23, 27, 28, 41, 42, 45, 46, 47, 48, 100047, 100048])] [(0, 58428501), (2, 58428500)] [] [(2, [7, 13, 14, 30]), (5, [31, 32]), (6, [30, 33, 5015]), (4, [16, 5013]), (3, [12, 15]), (1, [10, 11]), (0, [8, 9])] Proofs.Try.f64
def b_58428500 : TCode := bodAt t_slices_insertionSortOrdered_int 58428500
def b_58428501 : TCode := bodAt t_slices_insertionSortOrdered_int 58428501
def t0 : Opd := .t 0
def t1 : Opd := .t 1
def t9 : Opd := .t 9
def t11 : Opd := .t 11
def t12 : Opd := .t 12
def t22 : Opd := .t 22
def t28 : Opd := .t 28
def t29 : Opd := .t 29
def t32 : Opd := .t 32
def t34 : Opd := .t 34
def t38 : Opd := .t 38
def t43 : Opd := .t 43
def t44 : Opd := .t 44
def t45 : Opd := .t 45
def t49 : Opd := .t 49
def t50 : Opd := .t 50
def t51 : Opd := .t 51
def t52 : Opd := .t 52
def t53 : Opd := .t 53
def t62 : Opd := .t 62
def t63 : Opd := .t 63
def t65 : Opd := .t 65
def t66 : Opd := .t 66
def t67 : Opd := .t 67
def t68 : Opd := .t 68
def t69 : Opd := .t 69
def t70 : Opd := .t 70
def t71 : Opd := .t 71
def t72 : Opd := .t 72
def t73 : Opd := .t 73
def t75 : Opd := .t 75
def t76 : Opd := .t 76
def t77 : Opd := .t 77
def t78 : Opd := .t 78
def t79 : Opd := .t 79
def t80 : Opd := .t 80
def t81 : Opd := .t 81
def t82 : Opd := .t 82
def t83 : Opd := .t 83
def t84 : Opd := .t 84
def t85 : Opd := .t 85
def t86 : Opd := .t 86
def t87 : Opd := .t 87
def t88 : Opd := .t 88
def t89 : Opd := .t 89
def t90 : Opd := .t 90
def t91 : Opd := .t 91
def t94 : Opd := .t 94
def t95 : Opd := .t 95
def t96 : Opd := .t 96
def t97 : Opd := .t 97
def t98 : Opd := .t 98
def t109 : Opd := .t 109
def t113 : Opd := .t 113
def t117 : Opd := .t 117
def t118 : Opd := .t 118
def t119 : Opd := .t 119
def t120 : Opd := .t 120
def t122 : Opd := .t 122
def t127 : Opd := .t 127
def t128 : Opd := .t 128
def t129 : Opd := .t 129
def t130 : Opd := .t 130
def t131 : Opd := .t 131
def b_82372100 : TCode := (zB 1 (zQ (oQ [M 19 2, M 20 1, oX 21 .sub 19 20, M 10 21] [19, 20, 21]) (zQ (zQ (oQ [M 22 10, O 23 (.bin .leq t22 (I 12))] [22]) (zC t23 (zQ (oQ [M 24 0, M 25 1, M 26 2, O 27 (.call (.f n_slices_insertionSortOrdered_int) [t24, t25, t26])] [0, 1, 2, 3, 8, 9, 10, 23, 24, 25, 26, 27]) .ret) .skip)) (.cut (.seq (.seq (.ops [M 28 3, O 29 (.bin .eql t28 (I 0))] [] [23, 28]) (.cond t29 (.seq (.ops [M 30 0, M 31 1, M 32 2, O 33 (.call (.f 65) [t30, t31, t32])] [] [0, 1, 2, 3, 8, 9, 10, 29, 30, 31, 32, 33]) .ret) .skip)) (.seq (.seq (.ops [M 34 8, O 35 (.un .not t34)] [] [29, 34]) (.cond t35 (.seq (.ops [M 36 0, M 37 1, M 38 2, O 39 (.call (.f 66) [t36, t37, t38])] [] (zR 35 5)) (.ops [M 40 3, O 41 (.bin .sub t40 (I 1)), M 3 41] [] [40, 41])) .skip)) (.seq (.ops [M 43 0, M 44 1, M 45 2, O 46 (.call (.f 67) [t43, t44, t45]), M 42 46, O 47 (.ext t42 0), O 48 (.ext t42 1), M 11 47, M 12 48] [] [35, 42, 43, 44, 45, 46, 47, 48]) (.seq (.seq (.ops [M 49 12, O 50 (.bin .eql t49 (I 2))] [] [49]) (.cond t50 (.seq (.ops [M 51 0, M 52 1, M 53 2, O 54 (.call (.f 68) [t51, t52, t53])] [] [12, 50, 51, 52, 53, 54]) (.seq (.ops [M 55 2, O 56 (.bin .sub t55 (I 1)), M 57 11, M 58 1, oX 59 .sub 57 58, oX 60 .sub 56 59, M 11 60] [] (zR 55 6)) (.ops [O 12 (.mv (I 1))] [] []))) .skip)) (.seq (.seq (.ops [M 61 8, M 62 61, zT 63 62 (.mv t9), O 64 (.pick t62 t63 (.c (.bool false))), M 65 64, zT 66 65 (.mv t12), zT 67 65 (.bin .eql t66 (I 1)), O 68 (.pick t65 t67 (.c (.bool false)))] [] [12, 50, 61, 62, 63, 64, 65, 66, 67]) (.cond t68 (.seq (.ops [M 69 0, M 70 1, M 71 2, O 72 (.call (.f 69) [t69, t70, t71])] [] (zR 68 4)) (.cond t72 .ret .skip)) .skip)) (.seq (.seq (.ops [M 73 1, O 74 (.bin .gtr t73 (I 0)), M 75 74, zT 76 75 (.mv t0), zT 77 75 (.mv t1), zT 78 75 (.bin .sub t77 (I 1)), zT 79 75 (.iad 1 t76 t78), zT 80 75 (.load false 1 t79), zT 81 75 (.mv t0), zT 82 75 (.mv t11), zT 83 75 (.iad 1 t81 t82), zT 84 75 (.load false 1 t83), zT 85 75 (.call (.f n_cmp_Less_int) [t80, t84]), zT 86 75 (.un .not t85), O 87 (.pick t75 t86 (.c (.bool false)))] [(3, 4), (3, 5), (3, 8), (4, 8), (5, 8), (6, 8), (7, 8), (3, 9), (4, 9), (5, 9), (6, 9), (7, 9), (8, 9), (3, 10), (4, 10), (5, 10), (6, 10), (7, 10), (3, 11), (4, 11), (5, 11), (6, 11), (7, 11)] [68, 72, 73, 74, 75, 76, 77, 78, 79, 80, 81, 82, 83, 84, 85, 86]) (.cond t87 (.seq (.ops [M 88 0, M 89 1, M 90 2, M 91 11, O 92 (.call (.f 71) [t88, t89, t90, t91]), M 13 92] [] [1, 10, 11, 87, 88, 89, 90, 91, 92]) (.seq (.ops [M 93 13, M 1 93] [] [13, 93]) (.exit 1))) .skip)) (.seq (.ops [M 95 0, M 96 1, M 97 2, M 98 11, O 99 (.call (.f 72) [t95, t96, t97, t98]), M 94 99, O 100 (.ext t94 0), O 101 (.ext t94 1), M 14 100, M 15 101] [] [8, 9, 11, 87, 94, 95, 96, 97, 98, 99, 100, 101]) (.seq (.ops [M 102 15, M 9 102] [] [15, 102]) (.seq (.ops [M 103 14, M 104 1, oX 105 .sub 103 104, M 106 2, M 107 14, oX 108 .sub 106 107, M 16 105, M 17 108] [] (zR 103 6)) (.seq (.ops [M 109 10, O 110 (.bin .quo t109 (I 8)), M 18 110] [] [10, 109, 110]) (.seq (.ops [M 111 16, M 112 17, oX 113 .lss 111 112] [] [111, 112]) (.cond t113 (.seq (.ops [M 114 16, M 115 18, oX 116 .geq 114 115, M 8 116] [] [16, 17, 18, 113, 114, 115, 116]) (.seq (.ops [M 117 0, M 118 1, M 119 14, M 120 3, O 121 (.call (.f n_slices_pdqsortOrdered_int) [t117, t118, t119, t120])] [] [1, 117, 118, 119, 120, 121]) (.ops [M 122 14, O 123 (.bin .add t122 (I 1)), M 1 123] [] [14, 122, 123]))) (.seq (.ops [M 124 17, M 125 18, oX 126 .geq 124 125, M 8 126] [] [16, 17, 18, 113, 124, 125, 126]) (.seq (.ops [M 127 0, M 128 14, O 129 (.bin .add t128 (I 1)), M 130 2, M 131 3, O 132 (.call (.f n_slices_pdqsortOrdered_int) [t127, t129, t130, t131])] [] [2, 127, 128, 129, 130, 131, 132]) (.ops [M 133 14, M 2 133] [] [14, 133])))))))))))))))))))
def t_slices_pdqsortOrdered_int : TFn := ⟨4, [], (zQ (oQ [O 8 (.mv (.c (.bool true)))] []) (zQ (oQ [O 9 (.mv (.c (.bool true)))] []) (zB 0 (.loop 82372100 b_82372100))))⟩
def t_s_Sort_int_int : TFn := tl [] [] [] [(1, [0, 2, 5, 5005]), (0, [3, 4])] Proofs.Try.f30
def t_halve_Split : TFn := tl [(zI, 0, [39, 40, 48, 49, 66, 67, 70, 71, 122, 123]), (zE, 0, [51, 98]), (z2, 0, [92]), (zK, 0, [99, 101]), ((.agg [.i .i64, .i .i64, .i .i64]), 0, [153, 154, 160, 165, 177, 179])] [(0, 42112300), (2, 42112301), (4, 42112302)] [143, 161, 166, 4, 6, 7, 8, 9, 19, 24, 26] [(34, [4, 18, 21, 173, 5008]), (33, [171, 172]), (32, [148, 5003, 169, 170]), (31, [168]), (30, [26, 157, 163, 5004]), (29, [26, 157, 5005]), (28, [25, 155, 156]), (27, [151, 5003]), (24, [6, 7, 19, 118, 5003, 146, 147]), (23, [145]), (22, [12, 23, 24, 135, 139, 5005]), (21, [4, 6, 7, 18, 19, 21, 23, 24, 118, 119, 120, 135, 5003]), (20, [134]), (19, [124, 5009]), (17, [121, 122, 123]), (15, [1]), (13, [20, 111, 5006]), (12, [105, 108, 109, 110]), (11, [1, 4, 6, 7, 105, 106, 107]), (10, [14, 16, 17, 80, 5024]), (9, [15, 58, 74, 5005]), (7, [59, 60]), (8, [58, 61, 5012]), (6, [55, 56, 57]), (4, [13, 30, 34, 5020]), (3, [1, 4, 6, 7, 13, 30, 5003]), (2, [29]), (1, [27, 28]), (0, [0, 2, 3, 12])] Proofs.Try.f14
def b_42112300 : TCode := bodAt t_halve_Split 42112300
def b_42112301 : TCode := bodAt t_halve_Split 42112301
def b_42112302 : TCode := bodAt t_halve_Split 42112302
def t_halve_Run : TFn := tl [(zK, 0, [25, 27]), ((.agg [.d, .i .i64, .i .i64, .i .i64, .i .i64]), 0, [37, 56, 57, 64, 70, 74, 76, 83, 85, 87, 103, 107, 100041]), ((.agg [.d]), 0, [68, 100046]), (zI, 0, [71, 72]), (zD, 0, [79, 100079]), (.raw, 8, [111]), (zE, 0, [114])] [(0, 682800), (2, 682801)] [39, 78, 110, 2, 5, 6, 9, 10, 11] [(22, [5, 8, 51, 112, 113, 114]), (21, [9, 11, 12, 13, 99, 5012]), (20, [10, 14, 95, 98]), (19, [5, 8, 5006, 95, 96, 97]), (18, [94]), (17, [66, 80, 5013]), (16, [9, 66, 5013]), (15, [63, 64, 65]), (14, [58, 5004]), (13, [51, 5006]), (12, [49, 50]), (11, [6, 47, 48]), (10, [0, 32, 33, 34, 43, 5003]), (9, [42]), (8, [7, 36, 5005]), (7, [34, 35]), (5, [31]), (4, [4, 21, 24, 5006]), (3, [0, 5, 21, 22, 23]), (2, [20]), (1, [15, 5004]), (0, [3, 4])] Proofs.Try.f7
def b_682800 : TCode := bodAt t_halve_Run 682800
def b_682801 : TCode := bodAt t_halve_Run 682801
def t_halve_Bound : TFn := tl [] [] [] [(5, [0, 11, 5008]), (4, [0, 11]), (3, [9, 10]), (2, [0, 9]), (1, [4, 5004]), (0, [2, 3])] Proofs.Try.f15
def t_l09_between : TFn := tl [] [] [2, 3] [(1, [2, 3, 5, 5003]), (0, [0, 1, 4])] Proofs.Try.f16
end Go.Pf.Vc
namespace Go.Pf.Vc
open Go Go.Pf
def t_r03_Same : TFn := tl [(z4, 0, [19, 20, 23, 24])] [(0, 27088800)] [] [(8, [0, 1, 5, 14]), (5, [15, 16, 25]), (7, [0, 1, 5, 25]), (6, [14, 17, 5007]), (4, [11, 12, 13]), (3, [10]), (2, [0, 1, 10]), (1, [6, 5003]), (0, [4])] Proofs.Try.f21
def b_27088800 : TCode := bodAt t_r03_Same 27088800
def t_r06_Same : TFn := tl [((.agg [.d]), 0, [7, 10, 15, 21, 26]), (zD, 0, [23, 24, 28, 29])] [(0, 70742100)] [2, 3] [(8, [2, 3, 5, 17]), (5, [18, 19, 31]), (7, [2, 3, 5, 31]), (6, [17, 20, 5010]), (4, [13, 5003]), (3, [12]), (2, [2, 3, 12]), (1, [6, 5005]), (0, [0, 1, 4])] Proofs.Try.f8
def b_70742100 : TCode := bodAt t_r06_Same 70742100
def t_r09_Same : TFn := tl [(zI, 0, [19, 20, 23, 24])] [(0, 14397100)] [] [(8, [0, 1, 5, 14]), (5, [15, 16, 25]), (7, [0, 1, 5, 25]), (6, [14, 17, 5007]), (4, [11, 12, 13]), (3, [10]), (2, [0, 1, 10]), (1, [6, 5003]), (0, [4])] Proofs.Try.f17
def b_14397100 : TCode := bodAt t_r09_Same 14397100
def t_l09_alive : TFn := tl [] [] [28, 54, 74, 79, 1, 2, 3, 4, 5, 8, 9] [(5, [1, 5006, 9, 5005, 41, 5048]), (4, [37, 5003]), (3, [8, 25, 5011]), (2, [19, 5005]), (1, [15, 5003]), (0, [0])] Proofs.Try.f5
def t_r02_Normal : TFn := tl [(zK, 0, [13, 18, 27, 32, 40, 42, 50, 52, 61, 63, 68, 70, 72, 100048, 100059, 100066, 100079]), (zI, 0, [29, 30, 35, 36, 44, 45, 55, 56, 75, 76])] [(0, 36343900)] [46, 57, 64, 77, 2000013, 2000014, 1, 2, 4] [(12, [4, 80]), (11, [1, 67, 5012]), (10, [5, 20, 60, 5006]), (6, [21, 22, 38]), (9, [49, 5010]), (8, [38, 5010]), (7, [20, 23, 5014]), (5, [16, 5003]), (3, [8, 12, 5003]), (2, [1, 8, 5003]), (1, [6, 7]), (0, [0, 3])] Proofs.Try.f6
def b_36343900 : TCode := bodAt t_r02_Normal 36343900
def t_r04_SameLogs : TFn := tl [((.agg [.i .i64, .i .u8, .i .i64, .i .i64, .i .i64, .i .i64, .i .i64, .i .i64]), 0, [19, 20, 23, 24])] [(0, 11728400)] [] [(8, [0, 1, 5, 14]), (5, [15, 16, 25]), (7, [0, 1, 5, 25]), (6, [14, 17, 5007]), (4, [11, 12, 13]), (3, [10]), (2, [0, 1, 10]), (1, [6, 5003]), (0, [4])] Proofs.Try.f9
def b_11728400 : TCode := bodAt t_r04_SameLogs 11728400
def t_l09_HalveSame : TFn := tl [(zK, 0, [29, 30]), ((.agg [.d]), 0, [72, 85, 92, 110, 118, 126]), (zD, 0, [87, 88, 94, 95, 112, 113, 120, 121, 128, 129]), (z4, 0, [96, 99, 122, 124, 130, 132])] [(0, 20755500), (2, 20755502), (4, 20755501)] [38, 5, 7, 10] [(27, [0, 7, 13, 81, 138]), (17, [82, 83, 137]), (26, [0, 7, 13, 137]), (25, [14, 15, 104, 136]), (23, [105, 106]), (24, [104, 107, 5028]), (22, [101, 102, 103]), (20, [90, 5010]), (19, [0, 7, 13, 90]), (18, [81, 84, 5005]), (16, [78, 79, 80]), (15, [77]), (14, [0, 7, 77]), (13, [8, 5004, 52, 5024]), (12, [3, 46, 5005]), (11, [4, 23, 40, 5005]), (6, [24, 25]), (10, [5, 35, 5004]), (9, [0, 3, 4, 5, 35]), (8, [6, 34]), (7, [23, 26, 5007]), (5, [20, 21, 22]), (3, [18]), (2, [0, 18, 19]), (1, [16, 17]), (0, [2])] Proofs.Try.f3
def b_20755500 : TCode := bodAt t_l09_HalveSame 20755500
def b_20755501 : TCode := bodAt t_l09_HalveSame 20755501
def b_20755502 : TCode := bodAt t_l09_HalveSame 20755502
def tab : List (Nat × AFn) := [(n_r02_Great, t_r02_Great.fn), (n_r04_GreatCakes, t_r04_GreatCakes.fn), (n_r02_Check, t_r02_Check.fn), (n_r04_Check, t_r04_Check.fn), (n_l09_fit, t_l09_fit.fn), (n_r01_Of, t_r01_Of.fn), (n_l09_three, t_l09_three.fn), (n_s_Min_int_int, t_s_Min_int_int.fn), (n_s_Max_int_int, t_s_Max_int_int.fn), (n_cake_Check, t_cake_Check.fn), (n_ask_Check, t_ask_Check.fn), (n_s_Clone_int_int, t_s_Clone_int_int.fn), (n_ask_copied, t_ask_copied.fn), (n_ask_Open, t_ask_Open.fn), (n_halve_whole, t_halve_whole.fn), (n_ratio_size, t_ratio_size.fn), (n_ratio_gcd, t_ratio_gcd.fn), (n_ratio_Check, t_ratio_Check.fn), (n_cmp_Or_api_Errno, t_cmp_Or_api_Errno.fn), (n_ratio_check, t_ratio_check.fn), (n_cmp_isNaN_int64, t_cmp_isNaN_int64.fn), (n_cmp_Compare_int64, t_cmp_Compare_int64.fn), (n_m_Mul64, t_m_Mul64.fn), (n_cmp_isNaN_uint64, t_cmp_isNaN_uint64.fn), (n_cmp_Compare_uint64, t_cmp_Compare_uint64.fn), (n_cmp_Or_int, t_cmp_Or_int.fn), (n_ratio_Cmp, t_ratio_Cmp.fn), (n_halve_order, t_halve_order.fn), (n_ratio_signed, t_ratio_signed.fn), (n_ratio_Make, t_ratio_Make.fn), (n_ask_office_has, t_ask_office_has.fn), (n_cake_Total, t_cake_Total.fn), (n_ask_Total, t_ask_Total.fn), (n_cake_whole, t_cake_whole.fn), (n_cake_less, t_cake_less.fn), (n_cake_point, t_cake_point.fn), (n_m_Len64, t_m_Len64.fn), (n_m_LeadingZeros64, t_m_LeadingZeros64.fn), (n_m_Div64, t_m_Div64.fn), (n_m_Rem64, t_m_Rem64.fn), (n_ratio_Add, t_ratio_Add.fn), (n_ratio_Sub, t_ratio_Sub.fn), (n_ratio_Mul, t_ratio_Mul.fn), (n_cake_Value, t_cake_Value.fn), (n_ask_office_value, t_ask_office_value.fn), (n_ask_office_ask, t_ask_office_ask.fn), (n_ask_Value, t_ask_Value.fn), (n_ratio_Div, t_ratio_Div.fn), (n_cake_Mark_1, t_cake_Mark_1.fn), (n_cake_walk, t_cake_walk.fn), (n_cake_Mark, t_cake_Mark.fn), (n_ask_office_mark, t_ask_office_mark.fn), (n_ask_Mark, t_ask_Mark.fn), (n_halve_mark, t_halve_mark.fn), (n_slices_insertionSortCmpFunc_halve_half, t_slices_insertionSortCmpFunc_halve_half.fn), (n_slices_stableCmpFunc_halve_half, t_slices_stableCmpFunc_halve_half.fn), (n_s_SortStableFunc_halve_half_halve_half, t_s_SortStableFunc_halve_half_halve_half.fn), (n_halve_Split_1, t_halve_Split_1.fn), (n_m_Len32, t_m_Len32.fn), (n_m_Len, t_m_Len.fn), (n_cmp_isNaN_int, t_cmp_isNaN_int.fn), (n_cmp_Less_int, t_cmp_Less_int.fn), (n_slices_insertionSortOrdered_int, t_slices_insertionSortOrdered_int.fn), (n_slices_pdqsortOrdered_int, t_slices_pdqsortOrdered_int.fn), (n_s_Sort_int_int, t_s_Sort_int_int.fn), (n_halve_Split, t_halve_Split.fn), (n_halve_Run, t_halve_Run.fn), (n_halve_Bound, t_halve_Bound.fn), (n_l09_between, t_l09_between.fn), (n_r03_Same, t_r03_Same.fn), (n_r06_Same, t_r06_Same.fn), (n_r09_Same, t_r09_Same.fn), (n_l09_alive, t_l09_alive.fn), (n_r02_Normal, t_r02_Normal.fn), (n_r04_SameLogs, t_r04_SameLogs.fn), (n_l09_HalveSame, t_l09_HalveSame.fn)]
def quiL : List Nat := [n_r02_Great, n_r04_GreatCakes, n_r02_Check, n_r04_Check, n_l09_fit, n_r01_Of, n_l09_three, n_s_Min_int_int, n_s_Max_int_int, n_cake_Check, n_ask_Check, n_s_Clone_int_int, n_ask_copied, n_ask_Open, n_halve_whole, n_ratio_size, n_ratio_gcd, n_ratio_Check, n_cmp_Or_api_Errno, n_ratio_check, n_cmp_isNaN_int64, n_cmp_Compare_int64, n_m_Mul64, n_cmp_isNaN_uint64, n_cmp_Compare_uint64, n_cmp_Or_int, n_ratio_Cmp, n_halve_order, n_ratio_signed, n_ratio_Make, n_ask_office_has, n_cake_Total, n_ask_Total, n_cake_whole, n_cake_less, n_cake_point, n_m_Add64, n_m_Sub64, n_m_Len64, n_m_LeadingZeros64, n_m_Div64, n_m_Rem64, n_ratio_Add, n_ratio_Sub, n_ratio_Mul, n_cake_Value, n_ask_office_value, n_ask_Value, n_ratio_Div, n_cake_Mark, n_ask_office_mark, n_ask_Mark, n_halve_mark, n_halve_Split_1, n_m_Len32, n_m_Len, n_cmp_isNaN_int, n_cmp_Less_int, n_halve_Split, n_halve_Run, n_halve_Bound, n_l09_between, n_r03_Same, n_r06_Same, n_r09_Same, n_l09_alive, n_r02_Normal, n_r04_SameLogs, n_l09_HalveSame]
def cloL : Clones := [(n_s_Clone_int_int, 1, 8)]
def gloL : List (Nat × PV) := []
def E (ef : Es) : Env := (baseS n_m_Add64 n_m_Sub64 tab quiL cloL gloL ef)
def E0C : Env := baseC n_m_Add64 n_m_Sub64 tab quiL cloL gloL
def effNums : List Nat := []
abbrev EG (e : Es) : Prop := EffG E effNums e
theorem effG_nil : EG [] := ⟨fun _ _ _ _ h => (by cases h), fun _ _ _ _ => rfl⟩
theorem okU {e : Es} (he : EG e) {P : EP} {S : SE} {d n : Nat} {t : TFn} {s : Sg} {w : s.W} (hq : EqW S d t s w) (hS : SEOk P S) (hR : RngOk P S.E (callW S d) t.body) (hl : LpOk P S.E S.lp [] t.body) (hE : S.E = E e := by rfl) (hs : special n_m_Add64 n_m_Sub64 cloL n = false := by kernel_rfl) (hm : memN effNums n = false := by kernel_rfl) (hf : S.E.fns n = some t.fn := by kernel_rfl) (hu : S.E.qui n = true := by kernel_rfl) (hn : S.E.nl n = false := by kernel_rfl) : ∀ az K, s.pw w az K → ∃ r, K r ∧ AnsP P n az r := okW hq hS hR hl (fun _ => by rw [hE]; exact baseS_none hs _) (by rw [hE]; exact he.num _ hm) hf hu hn
abbrev T_s_Clone_int_int : Type := Ls → (Ls → Prop) → Prop
def w_s_Clone_int_int (p0 : Ls) (K : Ls → Prop) : Prop := w_clone 1 8 p0 K
def pw_s_Clone_int_int (w : Ls → (Ls → Prop) → Prop) (az : Ls) (K : PV → Prop) : Prop := pw_clone w az K
def wp_s_Clone_int_int (az : Ls) (K : PV → Prop) : Prop := wp_clone 1 8 az K
theorem ok_s_Clone_int_int (e : Es) (_ : EG e) : OkF (E e) wp_s_Clone_int_int n_s_Clone_int_int := clone_okS (by kernel_rfl) (by kernel_rfl) (by kernel_rfl)
abbrev T_m_Add64 : Type := Int → Int → Int → (Int → Int → Prop) → Prop
abbrev T_m_Sub64 : Type := Int → Int → Int → (Int → Int → Prop) → Prop
theorem ok_m_Add64 (e : Es) (_ : EG e) : OkF (E e) wp_m_Add64 n_m_Add64 := add64_okS
theorem ok_m_Sub64 (e : Es) (_ : EG e) : OkF (E e) wp_m_Sub64 n_m_Sub64 := sub64_okS (by kernel_rfl)
end Go.Pf.Vc
namespace Go.Pf.Vc
open Go Go.Pf
set_option maxRecDepth 100000
abbrev T_ratio_size : Type := Int → (Int → Prop) → Prop
def wv_ratio_size (p0 : Int) (K : Int → Prop) : Prop :=
 (cbr (decide (p0 < (0 : Int)))
 (K (IntKind.u64.wrap ((0 : Int) - (IntKind.u64.wrap p0))))
 (K (IntKind.u64.wrap p0)))
def w_ratio_size : T_ratio_size := wv_ratio_size
def pt0 : VPt := vI IntKind.i64
def pt1 : LPt := lC pt0 lN
def sg_ratio_size : Sg := ⟨pt1, Int → Prop, fun K => (fun r0 => K (.int .u64 r0))⟩
def S0_ratio_size (e : Es) : SE := sE (E e) [] lp0
theorem eq_ratio_size (e : Es) : EqW (S0_ratio_size e) 6 t_ratio_size sg_ratio_size wv_ratio_size := fun _ _ => by kernel_rfl
theorem ok_ratio_size (e : Es) (he : EG e) : OkF (E e) (sg_ratio_size.pw w_ratio_size) n_ratio_size := okU he (eq_ratio_size e) (seOk_of (Sub.uni _) trivial trivial he.ok) RngOk.flat (LpOk_no (by kernel_rfl))
abbrev T_ratio_gcd : Type := Int → Int → (Int → Prop) → Prop
def L_ratio_gcd_0_0 (x0 : Int → Int → Bool → Prop) : Nat → Int → Int → Prop
 | 0, _, _ => False
 | n + 1, i0, i1 =>
 (cbr (decide (i1 > (0 : Int)))
 (asr (!(decide (i1 = (0 : Int))))
 (L_ratio_gcd_0_0 x0 n i1 (Int.tmod i0 i1)))
 (x0 i0 i1 false))
def wv_ratio_gcd (p0 p1 : Int) (K : Int → Prop) : Prop :=
 (∃ n : Nat, L_ratio_gcd_0_0
 (fun yi0 _ _ => (K yi0))
 n p0 p1)
def w_ratio_gcd : T_ratio_gcd := wv_ratio_gcd
def pt2 : VPt := vI IntKind.u64
def pt3 : LPt := lC pt2 lN
def pt4 : LPt := lC pt2 pt3
def sg_ratio_gcd : Sg := ⟨pt4, Int → Prop, fun K => (fun r0 => K (.int .u64 r0))⟩
def X_ratio_gcd_0_0 (Q : Qx) : Int → Int → Bool → Prop := (fun i0 i1 b2 => Q (.exit 0) [(0, .v (.int .u64 i0)), (1, .v (.int .u64 i1)), (6, .v (.bool b2))] [])
def St_ratio_gcd_0 (Q : Qx) : List St := [⟨(pS hN (fV 0 pt2 (fV 1 pt2 fN)) fN), L_ratio_gcd_0_0 (X_ratio_gcd_0_0 Q)⟩]
def lp_ratio_gcd : LP := lpS [(32725300, St_ratio_gcd_0)]
def S0_ratio_gcd (e : Es) : SE := sE (E e) [] (lp_ratio_gcd)
theorem se0_ratio_gcd (e : Es) (he : EG e) : SEOk (Uni (E e)) (S0_ratio_gcd e) := seOk_of (Sub.uni _) trivial trivial he.ok
theorem body_ratio_gcd_0 (e : Es) : BodOk (S0_ratio_gcd e) 5 yk0 b_32725300 false (St_ratio_gcd_0) := fun _ => ⟨fun _ => by kernel_rfl, fun _ _ => by kernel_rfl, trivial⟩
theorem loop_ratio_gcd_0 (e : Es) (he : EG e) : LpT (Uni (E e)) (lp_ratio_gcd) [] 32725300 (.loop 32725300 b_32725300) := fun _ _ _ => LoopT.st (Sub.uni _) (callW_ok (se0_ratio_gcd e he) 5) (YOk.no _ _) (LpOk_no (by kernel_rfl)) (body_ratio_gcd_0 e _)
theorem eq_ratio_gcd (e : Es) : EqW (S0_ratio_gcd e) 6 t_ratio_gcd sg_ratio_gcd wv_ratio_gcd := fun _ _ => by kernel_rfl
theorem ok_ratio_gcd (e : Es) (he : EG e) : OkF (E e) (sg_ratio_gcd.pw w_ratio_gcd) n_ratio_gcd := okU he (eq_ratio_gcd e) (se0_ratio_gcd e he) RngOk.flat (LpOk_by (l := [(32725300, .loop 32725300 b_32725300)]) ⟨loop_ratio_gcd_0 e he, trivial⟩ (by kernel_rfl))
def wv_ratio_Check (a0 : T_ratio_size) (a1 : T_ratio_gcd) (p0 p1 : Int) (K : Int → Prop) : Prop :=
 (cbr (decide (p1 < (1 : Int)))
 (K (8 : Int))
 (a0 p0 (fun yi0 => 
 (cbr (decide ((if (IntKind.u64.wrap p1) > yi0 then (IntKind.u64.wrap p1) else yi0) > (1000000000000000000 : Int)))
 (K (8 : Int))
 (a0 p0 (fun yi1 => 
 (a1 yi1 (IntKind.u64.wrap p1) (fun yi2 => 
 (cbr (decide (yi2 > (1 : Int)))
 (K (8 : Int))
 (K (0 : Int)))))))))))
def w_ratio_Check : T_ratio_gcd := wv_ratio_Check w_ratio_size w_ratio_gcd
def pt5 : LPt := lC pt0 pt1
def pt6 : VPt := vA pt5
def sg_ratio_Check : Sg := ⟨(lC pt6 lN), Int → Prop, fun K => (fun r0 => K (.int .i64 r0))⟩
def S0_ratio_Check (e : Es) (a0 : T_ratio_size) (a1 : T_ratio_gcd) : SE := sE (E e) [(n_ratio_size, sg_ratio_size.pw a0), (n_ratio_gcd, sg_ratio_gcd.pw a1)] lp0
theorem eq_ratio_Check (e : Es) (a0 a1) : EqW (S0_ratio_Check e a0 a1) 6 t_ratio_Check sg_ratio_Check (wv_ratio_Check a0 a1) := fun _ _ => by kernel_rfl
theorem ok_ratio_Check (e : Es) (he : EG e) : OkF (E e) (sg_ratio_Check.pw w_ratio_Check) n_ratio_Check := okU he (eq_ratio_Check e _ _) (seOk_of (Sub.uni _) ⟨(ok_ratio_size e he), (ok_ratio_gcd e he), trivial⟩ trivial he.ok) RngOk.flat (LpOk_no (by kernel_rfl))
abbrev T_cmp_Or_api_Errno : Type := Ls → (Int → Prop) → Prop
def L_cmp_Or_api_Errno_0_0 (x0 : Int → Prop) (x1 : Int → Ls → Int → Int → Bool → Prop) : Nat → Int → Ls → Int → Int → Prop
 | 0, _, _, _, _ => False
 | n + 1, i0, l1, i2, i3 =>
 (cbr (decide (i3 < i2))
 (asr (decide ((0 : Int) ≤ i3))
 (asr (decide (i3 < (((List.length l1) : Nat) : Int)))
 (asr (conf zI (List.getD l1 (i3.toNat) .nils))
 (cbr ((intOfV (List.getD l1 (i3.toNat) .nils)) != i0)
 (x0 (intOfV (List.getD l1 (i3.toNat) .nils)))
 (L_cmp_Or_api_Errno_0_0 x0 x1 n i0 l1 i2 (IntKind.i64.wrap (i3 + (1 : Int))))))))
 (x1 i0 l1 i2 i3 false))
def wv_cmp_Or_api_Errno (p0 : Ls) (K : Int → Prop) : Prop :=
 (∃ n : Nat, L_cmp_Or_api_Errno_0_0
 (fun yi0 => (K yi0))
 (fun yi1 _ _ _ _ => (K yi1))
 n (0 : Int) p0 (((List.length p0) : Nat) : Int) (0 : Int))
def w_cmp_Or_api_Errno : T_cmp_Or_api_Errno := wv_cmp_Or_api_Errno
def pt7 : LPt := lC vD lN
def sg_cmp_Or_api_Errno : Sg := ⟨pt7, Int → Prop, fun K => (fun r0 => K (.int .i64 r0))⟩
def X_cmp_Or_api_Errno_0_0 (Q : Qx) : Int → Prop := (fun i0 => Q .ret [(2, .v (.int .i64 i0))] [])
def X_cmp_Or_api_Errno_0_1 (Q : Qx) : Int → Ls → Int → Int → Bool → Prop := (fun i0 l1 i2 i3 b4 => Q (.exit 0) [(3, .v (.int .i64 i0)), (6, .v (.data l1)), (7, .v (.int .i64 i2)), (8, .v (.int .i64 i3)), (9, .v (.bool b4))] [])
def pt8 : Pat Frm := fV 6 vD (fV 7 pt0 (fV 8 pt0 fN))
def St_cmp_Or_api_Errno_0 (Q : Qx) : List St := [⟨(pS hN (fV 3 pt0 pt8) fN), L_cmp_Or_api_Errno_0_0 (X_cmp_Or_api_Errno_0_0 Q) (X_cmp_Or_api_Errno_0_1 Q)⟩]
def lp_cmp_Or_api_Errno : LP := lpS [(38508400, St_cmp_Or_api_Errno_0)]
def S0_cmp_Or_api_Errno (e : Es) : SE := sE (E e) [] (lp_cmp_Or_api_Errno)
theorem se0_cmp_Or_api_Errno (e : Es) (he : EG e) : SEOk (Uni (E e)) (S0_cmp_Or_api_Errno e) := seOk_of (Sub.uni _) trivial trivial he.ok
theorem body_cmp_Or_api_Errno_0 (e : Es) : BodOk (S0_cmp_Or_api_Errno e) 5 yk0 b_38508400 false (St_cmp_Or_api_Errno_0) := fun _ => ⟨fun _ => by kernel_rfl, fun _ _ => by kernel_rfl, trivial⟩
theorem loop_cmp_Or_api_Errno_0 (e : Es) (he : EG e) : LpT (Uni (E e)) (lp_cmp_Or_api_Errno) [] 38508400 (.loop 38508400 b_38508400) := fun _ _ _ => LoopT.st (Sub.uni _) (callW_ok (se0_cmp_Or_api_Errno e he) 5) (YOk.no _ _) (LpOk_no (by kernel_rfl)) (body_cmp_Or_api_Errno_0 e _)
theorem eq_cmp_Or_api_Errno (e : Es) : EqW (S0_cmp_Or_api_Errno e) 6 t_cmp_Or_api_Errno sg_cmp_Or_api_Errno wv_cmp_Or_api_Errno := fun _ _ => by kernel_rfl
theorem ok_cmp_Or_api_Errno (e : Es) (he : EG e) : OkF (E e) (sg_cmp_Or_api_Errno.pw w_cmp_Or_api_Errno) n_cmp_Or_api_Errno := okU he (eq_cmp_Or_api_Errno e) (se0_cmp_Or_api_Errno e he) RngOk.flat (LpOk_by (l := [(38508400, .loop 38508400 b_38508400)]) ⟨loop_cmp_Or_api_Errno_0 e he, trivial⟩ (by kernel_rfl))
abbrev T_ratio_check : Type := Int → Int → Int → Int → (Int → Prop) → Prop
def wv_ratio_check (a0 : T_ratio_gcd) (a1 : T_cmp_Or_api_Errno) (p0 p1 p2 p3 : Int) (K : Int → Prop) : Prop :=
 (a0 p0 p1 (fun yi0 => 
 (a0 p2 p3 (fun yi1 => 
 (a1 ([(.int .i64 yi0), (.int .i64 yi1)] : Ls) (fun yi2 => 
 (K yi2)))))))
def w_ratio_check : T_ratio_check := wv_ratio_check w_ratio_Check w_cmp_Or_api_Errno
def pt9 : LPt := lC pt6 (lC pt6 lN)
def sg_ratio_check : Sg := ⟨pt9, Int → Prop, fun K => (fun r0 => K (.int .i64 r0))⟩
def S0_ratio_check (e : Es) (a0 : T_ratio_gcd) (a1 : T_cmp_Or_api_Errno) : SE := sE (E e) [(n_ratio_Check, sg_ratio_Check.pw a0), (n_cmp_Or_api_Errno, sg_cmp_Or_api_Errno.pw a1)] lp0
theorem eq_ratio_check (e : Es) (a0 a1) : EqW (S0_ratio_check e a0 a1) 6 t_ratio_check sg_ratio_check (wv_ratio_check a0 a1) := fun _ _ => by kernel_rfl
theorem ok_ratio_check (e : Es) (he : EG e) : OkF (E e) (sg_ratio_check.pw w_ratio_check) n_ratio_check := okU he (eq_ratio_check e _ _) (seOk_of (Sub.uni _) ⟨(ok_ratio_Check e he), (ok_cmp_Or_api_Errno e he), trivial⟩ trivial he.ok) RngOk.flat (LpOk_no (by kernel_rfl))
abbrev T_cmp_isNaN_int64 : Type := Int → (Bool → Prop) → Prop
def wv_cmp_isNaN_int64 (p0 : Int) (K : Bool → Prop) : Prop :=
 (K (p0 != p0))
def w_cmp_isNaN_int64 : T_cmp_isNaN_int64 := wv_cmp_isNaN_int64
def sg_cmp_isNaN_int64 : Sg := ⟨pt1, Bool → Prop, fun K => (fun r0 => K (.bool r0))⟩
def S0_cmp_isNaN_int64 (e : Es) : SE := sE (E e) [] lp0
theorem eq_cmp_isNaN_int64 (e : Es) : EqW (S0_cmp_isNaN_int64 e) 6 t_cmp_isNaN_int64 sg_cmp_isNaN_int64 wv_cmp_isNaN_int64 := fun _ _ => by kernel_rfl
theorem ok_cmp_isNaN_int64 (e : Es) (he : EG e) : OkF (E e) (sg_cmp_isNaN_int64.pw w_cmp_isNaN_int64) n_cmp_isNaN_int64 := okU he (eq_cmp_isNaN_int64 e) (seOk_of (Sub.uni _) trivial trivial he.ok) RngOk.flat (LpOk_no (by kernel_rfl))
def wv_cmp_Compare_int64 (a0 : T_cmp_isNaN_int64) (p0 p1 : Int) (K : Int → Prop) : Prop :=
 (a0 p0 (fun yb0 => 
 (a0 p1 (fun yb1 => 
 (cbr yb0
 (cbr yb1
 (K (0 : Int))
 (K (-1 : Int)))
 (cbr yb1
 (K (1 : Int))
 (cbr (decide (p0 < p1))
 (K (-1 : Int))
 (cbr (decide (p0 > p1))
 (K (1 : Int))
 (K (0 : Int))))))))))
def w_cmp_Compare_int64 : T_ratio_gcd := wv_cmp_Compare_int64 w_cmp_isNaN_int64
def sg_cmp_Compare_int64 : Sg := ⟨pt5, Int → Prop, fun K => (fun r0 => K (.int .i64 r0))⟩
def S0_cmp_Compare_int64 (e : Es) (a0 : T_cmp_isNaN_int64) : SE := sE (E e) [(n_cmp_isNaN_int64, sg_cmp_isNaN_int64.pw a0)] lp0
theorem eq_cmp_Compare_int64 (e : Es) (a0) : EqW (S0_cmp_Compare_int64 e a0) 6 t_cmp_Compare_int64 sg_cmp_Compare_int64 (wv_cmp_Compare_int64 a0) := fun _ _ => by kernel_rfl
theorem ok_cmp_Compare_int64 (e : Es) (he : EG e) : OkF (E e) (sg_cmp_Compare_int64.pw w_cmp_Compare_int64) n_cmp_Compare_int64 := okU he (eq_cmp_Compare_int64 e _) (seOk_of (Sub.uni _) ⟨(ok_cmp_isNaN_int64 e he), trivial⟩ trivial he.ok) RngOk.flat (LpOk_no (by kernel_rfl))
abbrev T_m_Mul64 : Type := Int → Int → (Int → Int → Prop) → Prop
def wv_m_Mul64 (p0 p1 : Int) (K : Int → Int → Prop) : Prop :=
 (K (IntKind.u64.wrap ((IntKind.u64.wrap ((IntKind.u64.wrap ((Int.fdiv p0 4294967296) * (Int.fdiv p1 4294967296))) + (Int.fdiv (IntKind.u64.wrap ((IntKind.u64.wrap ((Int.fdiv p0 4294967296) * (IntKind.u64.wrap (BitVec.ofInt IntKind.u64.bits p1 &&& BitVec.ofInt IntKind.u64.bits (4294967295 : Int)).toNat))) + (Int.fdiv (IntKind.u64.wrap ((IntKind.u64.wrap (BitVec.ofInt IntKind.u64.bits p0 &&& BitVec.ofInt IntKind.u64.bits (4294967295 : Int)).toNat) * (IntKind.u64.wrap (BitVec.ofInt IntKind.u64.bits p1 &&& BitVec.ofInt IntKind.u64.bits (4294967295 : Int)).toNat))) 4294967296))) 4294967296))) + (Int.fdiv (IntKind.u64.wrap ((IntKind.u64.wrap (BitVec.ofInt IntKind.u64.bits (IntKind.u64.wrap ((IntKind.u64.wrap ((Int.fdiv p0 4294967296) * (IntKind.u64.wrap (BitVec.ofInt IntKind.u64.bits p1 &&& BitVec.ofInt IntKind.u64.bits (4294967295 : Int)).toNat))) + (Int.fdiv (IntKind.u64.wrap ((IntKind.u64.wrap (BitVec.ofInt IntKind.u64.bits p0 &&& BitVec.ofInt IntKind.u64.bits (4294967295 : Int)).toNat) * (IntKind.u64.wrap (BitVec.ofInt IntKind.u64.bits p1 &&& BitVec.ofInt IntKind.u64.bits (4294967295 : Int)).toNat))) 4294967296))) &&& BitVec.ofInt IntKind.u64.bits (4294967295 : Int)).toNat) + (IntKind.u64.wrap ((IntKind.u64.wrap (BitVec.ofInt IntKind.u64.bits p0 &&& BitVec.ofInt IntKind.u64.bits (4294967295 : Int)).toNat) * (Int.fdiv p1 4294967296))))) 4294967296))) (IntKind.u64.wrap (p0 * p1)))
def w_m_Mul64 : T_m_Mul64 := wv_m_Mul64
def sg_m_Mul64 : Sg := ⟨pt4, Int → Int → Prop, fun K => (fun r0 r1 => K (.tup [(.int .u64 r0), (.int .u64 r1)]))⟩
def S0_m_Mul64 (e : Es) : SE := sE (E e) [] lp0
theorem eq_m_Mul64 (e : Es) : EqW (S0_m_Mul64 e) 6 t_m_Mul64 sg_m_Mul64 wv_m_Mul64 := fun _ _ => by kernel_rfl
theorem ok_m_Mul64 (e : Es) (he : EG e) : OkF (E e) (sg_m_Mul64.pw w_m_Mul64) n_m_Mul64 := okU he (eq_m_Mul64 e) (seOk_of (Sub.uni _) trivial trivial he.ok) RngOk.flat (LpOk_no (by kernel_rfl))
def wv_cmp_isNaN_uint64 (p0 : Int) (K : Bool → Prop) : Prop :=
 (K (p0 != p0))
def w_cmp_isNaN_uint64 : T_cmp_isNaN_int64 := wv_cmp_isNaN_uint64
def sg_cmp_isNaN_uint64 : Sg := ⟨pt3, Bool → Prop, fun K => (fun r0 => K (.bool r0))⟩
def S0_cmp_isNaN_uint64 (e : Es) : SE := sE (E e) [] lp0
theorem eq_cmp_isNaN_uint64 (e : Es) : EqW (S0_cmp_isNaN_uint64 e) 6 t_cmp_isNaN_uint64 sg_cmp_isNaN_uint64 wv_cmp_isNaN_uint64 := fun _ _ => by kernel_rfl
theorem ok_cmp_isNaN_uint64 (e : Es) (he : EG e) : OkF (E e) (sg_cmp_isNaN_uint64.pw w_cmp_isNaN_uint64) n_cmp_isNaN_uint64 := okU he (eq_cmp_isNaN_uint64 e) (seOk_of (Sub.uni _) trivial trivial he.ok) RngOk.flat (LpOk_no (by kernel_rfl))
def wv_cmp_Compare_uint64 (a0 : T_cmp_isNaN_int64) (p0 p1 : Int) (K : Int → Prop) : Prop :=
 (a0 p0 (fun yb0 => 
 (a0 p1 (fun yb1 => 
 (cbr yb0
 (cbr yb1
 (K (0 : Int))
 (K (-1 : Int)))
 (cbr yb1
 (K (1 : Int))
 (cbr (decide (p0 < p1))
 (K (-1 : Int))
 (cbr (decide (p0 > p1))
 (K (1 : Int))
 (K (0 : Int))))))))))
def w_cmp_Compare_uint64 : T_ratio_gcd := wv_cmp_Compare_uint64 w_cmp_isNaN_uint64
def sg_cmp_Compare_uint64 : Sg := ⟨pt4, Int → Prop, fun K => (fun r0 => K (.int .i64 r0))⟩
def S0_cmp_Compare_uint64 (e : Es) (a0 : T_cmp_isNaN_int64) : SE := sE (E e) [(n_cmp_isNaN_uint64, sg_cmp_isNaN_uint64.pw a0)] lp0
theorem eq_cmp_Compare_uint64 (e : Es) (a0) : EqW (S0_cmp_Compare_uint64 e a0) 6 t_cmp_Compare_uint64 sg_cmp_Compare_uint64 (wv_cmp_Compare_uint64 a0) := fun _ _ => by kernel_rfl
theorem ok_cmp_Compare_uint64 (e : Es) (he : EG e) : OkF (E e) (sg_cmp_Compare_uint64.pw w_cmp_Compare_uint64) n_cmp_Compare_uint64 := okU he (eq_cmp_Compare_uint64 e _) (seOk_of (Sub.uni _) ⟨(ok_cmp_isNaN_uint64 e he), trivial⟩ trivial he.ok) RngOk.flat (LpOk_no (by kernel_rfl))
def L_cmp_Or_int_0_0 (x0 : Int → Prop) (x1 : Int → Ls → Int → Int → Bool → Prop) : Nat → Int → Ls → Int → Int → Prop
 | 0, _, _, _, _ => False
 | n + 1, i0, l1, i2, i3 =>
 (cbr (decide (i3 < i2))
 (asr (decide ((0 : Int) ≤ i3))
 (asr (decide (i3 < (((List.length l1) : Nat) : Int)))
 (asr (conf zI (List.getD l1 (i3.toNat) .nils))
 (cbr ((intOfV (List.getD l1 (i3.toNat) .nils)) != i0)
 (x0 (intOfV (List.getD l1 (i3.toNat) .nils)))
 (L_cmp_Or_int_0_0 x0 x1 n i0 l1 i2 (IntKind.i64.wrap (i3 + (1 : Int))))))))
 (x1 i0 l1 i2 i3 false))
def wv_cmp_Or_int (p0 : Ls) (K : Int → Prop) : Prop :=
 (∃ n : Nat, L_cmp_Or_int_0_0
 (fun yi0 => (K yi0))
 (fun yi1 _ _ _ _ => (K yi1))
 n (0 : Int) p0 (((List.length p0) : Nat) : Int) (0 : Int))
def w_cmp_Or_int : T_cmp_Or_api_Errno := wv_cmp_Or_int
def X_cmp_Or_int_0_0 (Q : Qx) : Int → Prop := (fun i0 => Q .ret [(2, .v (.int .i64 i0))] [])
def X_cmp_Or_int_0_1 (Q : Qx) : Int → Ls → Int → Int → Bool → Prop := (fun i0 l1 i2 i3 b4 => Q (.exit 0) [(3, .v (.int .i64 i0)), (6, .v (.data l1)), (7, .v (.int .i64 i2)), (8, .v (.int .i64 i3)), (9, .v (.bool b4))] [])
def St_cmp_Or_int_0 (Q : Qx) : List St := [⟨(pS hN (fV 3 pt0 pt8) fN), L_cmp_Or_int_0_0 (X_cmp_Or_int_0_0 Q) (X_cmp_Or_int_0_1 Q)⟩]
def lp_cmp_Or_int : LP := lpS [(53260600, St_cmp_Or_int_0)]
def S0_cmp_Or_int (e : Es) : SE := sE (E e) [] (lp_cmp_Or_int)
theorem se0_cmp_Or_int (e : Es) (he : EG e) : SEOk (Uni (E e)) (S0_cmp_Or_int e) := seOk_of (Sub.uni _) trivial trivial he.ok
theorem body_cmp_Or_int_0 (e : Es) : BodOk (S0_cmp_Or_int e) 5 yk0 b_53260600 false (St_cmp_Or_int_0) := fun _ => ⟨fun _ => by kernel_rfl, fun _ _ => by kernel_rfl, trivial⟩
theorem loop_cmp_Or_int_0 (e : Es) (he : EG e) : LpT (Uni (E e)) (lp_cmp_Or_int) [] 53260600 (.loop 53260600 b_53260600) := fun _ _ _ => LoopT.st (Sub.uni _) (callW_ok (se0_cmp_Or_int e he) 5) (YOk.no _ _) (LpOk_no (by kernel_rfl)) (body_cmp_Or_int_0 e _)
theorem eq_cmp_Or_int (e : Es) : EqW (S0_cmp_Or_int e) 6 t_cmp_Or_int sg_cmp_Or_api_Errno wv_cmp_Or_int := fun _ _ => by kernel_rfl
theorem ok_cmp_Or_int (e : Es) (he : EG e) : OkF (E e) (sg_cmp_Or_api_Errno.pw w_cmp_Or_int) n_cmp_Or_int := okU he (eq_cmp_Or_int e) (se0_cmp_Or_int e he) RngOk.flat (LpOk_by (l := [(53260600, .loop 53260600 b_53260600)]) ⟨loop_cmp_Or_int_0 e he, trivial⟩ (by kernel_rfl))
abbrev T_ratio_Cmp : Type := Int → Int → Int → Int → (Int → Int → Prop) → Prop
def wv_ratio_Cmp (a0 : T_ratio_check) (a1 : T_ratio_gcd) (a2 : T_ratio_size) (a3 : T_m_Mul64) (a4 : T_ratio_gcd) (a5 : T_cmp_Or_api_Errno) (p0 p1 p2 p3 : Int) (K : Int → Int → Prop) : Prop :=
 (a0 p0 p1 p2 p3 (fun yi0 => 
 (cbr (yi0 != (0 : Int))
 (K (0 : Int) yi0)
 (cbr ((decide (p0 < (0 : Int))) != (decide (p2 < (0 : Int))))
 (a1 p0 p2 (fun yi1 => 
 (K yi1 (0 : Int))))
 (a2 p0 (fun yi2 => 
 (a3 yi2 (IntKind.u64.wrap p3) (fun yi3 yi4 => 
 (a2 p2 (fun yi5 => 
 (a3 yi5 (IntKind.u64.wrap p1) (fun yi6 yi7 => 
 (a4 yi3 yi6 (fun yi8 => 
 (a4 yi4 yi7 (fun yi9 => 
 (a5 ([(.int .i64 yi8), (.int .i64 yi9)] : Ls) (fun yi10 => 
 (cbr (decide (p0 < (0 : Int)))
 (K (IntKind.i64.wrap ((0 : Int) - yi10)) (0 : Int))
 (K yi10 (0 : Int)))))))))))))))))))))
def w_ratio_Cmp : T_ratio_Cmp := wv_ratio_Cmp w_ratio_check w_cmp_Compare_int64 w_ratio_size w_m_Mul64 w_cmp_Compare_uint64 w_cmp_Or_int
def sg_ratio_Cmp : Sg := ⟨pt9, Int → Int → Prop, fun K => (fun r0 r1 => K (.tup [(.int .i64 r0), (.int .i64 r1)]))⟩
def S0_ratio_Cmp (e : Es) (a0 : T_ratio_check) (a1 : T_ratio_gcd) (a2 : T_ratio_size) (a3 : T_m_Mul64) (a4 : T_ratio_gcd) (a5 : T_cmp_Or_api_Errno) : SE := sE (E e) [(n_ratio_check, sg_ratio_check.pw a0), (n_cmp_Compare_int64, sg_cmp_Compare_int64.pw a1), (n_ratio_size, sg_ratio_size.pw a2), (n_m_Mul64, sg_m_Mul64.pw a3), (n_cmp_Compare_uint64, sg_cmp_Compare_uint64.pw a4), (n_cmp_Or_int, sg_cmp_Or_api_Errno.pw a5)] lp0
theorem eq_ratio_Cmp (e : Es) (a0 a1 a2 a3 a4 a5) : EqW (S0_ratio_Cmp e a0 a1 a2 a3 a4 a5) 6 t_ratio_Cmp sg_ratio_Cmp (wv_ratio_Cmp a0 a1 a2 a3 a4 a5) := fun _ _ => by kernel_rfl
theorem ok_ratio_Cmp (e : Es) (he : EG e) : OkF (E e) (sg_ratio_Cmp.pw w_ratio_Cmp) n_ratio_Cmp := okU he (eq_ratio_Cmp e _ _ _ _ _ _) (seOk_of (Sub.uni _) ⟨(ok_ratio_check e he), (ok_cmp_Compare_int64 e he), (ok_ratio_size e he), (ok_m_Mul64 e he), (ok_cmp_Compare_uint64 e he), (ok_cmp_Or_int e he), trivial⟩ trivial he.ok) RngOk.flat (LpOk_no (by kernel_rfl))
abbrev T_ratio_signed : Type := Bool → Int → Int → (Int → Int → Int → Prop) → Prop
def wv_ratio_signed (p0 : Bool) (p1 p2 : Int) (K : Int → Int → Int → Prop) : Prop :=
 (cbr (decide ((if p2 > p1 then p2 else p1) > (1000000000000000000 : Int)))
 (K (0 : Int) (0 : Int) (16 : Int))
 (cbr p0
 (K (IntKind.i64.wrap ((0 : Int) - (IntKind.i64.wrap p1))) (IntKind.i64.wrap p2) (0 : Int))
 (K (IntKind.i64.wrap p1) (IntKind.i64.wrap p2) (0 : Int))))
def w_ratio_signed : T_ratio_signed := wv_ratio_signed
def sg_ratio_signed : Sg := ⟨(lC vB pt4), Int → Int → Int → Prop, fun K => (fun r0 r1 r2 => K (.tup [(.agg [(.int .i64 r0), (.int .i64 r1)]), (.int .i64 r2)]))⟩
def S0_ratio_signed (e : Es) : SE := sE (E e) [] lp0
theorem eq_ratio_signed (e : Es) : EqW (S0_ratio_signed e) 6 t_ratio_signed sg_ratio_signed wv_ratio_signed := fun _ _ => by kernel_rfl
theorem ok_ratio_signed (e : Es) (he : EG e) : OkF (E e) (sg_ratio_signed.pw w_ratio_signed) n_ratio_signed := okU he (eq_ratio_signed e) (seOk_of (Sub.uni _) trivial trivial he.ok) RngOk.flat (LpOk_no (by kernel_rfl))
abbrev T_ratio_Make : Type := Int → Int → (Int → Int → Int → Prop) → Prop
def wv_ratio_Make (a0 : T_ratio_size) (a1 : T_ratio_gcd) (a2 : T_ratio_signed) (p0 p1 : Int) (K : Int → Int → Int → Prop) : Prop :=
 (cbr (p1 == (0 : Int))
 (K (0 : Int) (0 : Int) (18 : Int))
 (a0 p0 (fun yi0 => 
 (a0 p1 (fun yi1 => 
 (a1 yi0 yi1 (fun yi2 => 
 (asr (!(decide (yi2 = (0 : Int))))
 (asr (!(decide (yi2 = (0 : Int))))
 (a2 ((decide (p0 < (0 : Int))) != (decide (p1 < (0 : Int)))) (IntKind.u64.wrap (Int.tdiv yi0 yi2)) (IntKind.u64.wrap (Int.tdiv yi1 yi2)) (fun yi3 yi4 yi5 => 
 (K yi3 yi4 yi5))))))))))))
def w_ratio_Make : T_ratio_Make := wv_ratio_Make w_ratio_size w_ratio_gcd w_ratio_signed
def sg_ratio_Make : Sg := ⟨pt5, Int → Int → Int → Prop, fun K => (fun r0 r1 r2 => K (.tup [(.agg [(.int .i64 r0), (.int .i64 r1)]), (.int .i64 r2)]))⟩
def S0_ratio_Make (e : Es) (a0 : T_ratio_size) (a1 : T_ratio_gcd) (a2 : T_ratio_signed) : SE := sE (E e) [(n_ratio_size, sg_ratio_size.pw a0), (n_ratio_gcd, sg_ratio_gcd.pw a1), (n_ratio_signed, sg_ratio_signed.pw a2)] lp0
theorem eq_ratio_Make (e : Es) (a0 a1 a2) : EqW (S0_ratio_Make e a0 a1 a2) 6 t_ratio_Make sg_ratio_Make (wv_ratio_Make a0 a1 a2) := fun _ _ => by kernel_rfl
theorem ok_ratio_Make (e : Es) (he : EG e) : OkF (E e) (sg_ratio_Make.pw w_ratio_Make) n_ratio_Make := okU he (eq_ratio_Make e _ _ _) (seOk_of (Sub.uni _) ⟨(ok_ratio_size e he), (ok_ratio_gcd e he), (ok_ratio_signed e he), trivial⟩ trivial he.ok) RngOk.flat (LpOk_no (by kernel_rfl))
def wv_m_Len64 (p0 : Int) (K : Int → Prop) : Prop :=
 (cbr (decide (p0 ≥ (4294967296 : Int)))
 (cbr (decide ((Int.fdiv p0 4294967296) ≥ (65536 : Int)))
 (cbr (decide ((Int.fdiv (Int.fdiv p0 4294967296) 65536) ≥ (256 : Int)))
 (asr (decide ((0 : Int) ≤ (IntKind.u8.wrap (Int.fdiv (Int.fdiv (Int.fdiv p0 4294967296) 65536) 256))))
 (asr (decide ((IntKind.u8.wrap (Int.fdiv (Int.fdiv (Int.fdiv p0 4294967296) 65536) 256)) < (256 : Int)))
 (K (IntKind.i64.wrap ((56 : Int) + (IntKind.i64.wrap (intOfV (List.getD len8tab ((IntKind.u8.wrap (Int.fdiv (Int.fdiv (Int.fdiv p0 4294967296) 65536) 256)).toNat) .nils))))))))
 (asr (decide ((0 : Int) ≤ (IntKind.u8.wrap (Int.fdiv (Int.fdiv p0 4294967296) 65536))))
 (asr (decide ((IntKind.u8.wrap (Int.fdiv (Int.fdiv p0 4294967296) 65536)) < (256 : Int)))
 (K (IntKind.i64.wrap ((48 : Int) + (IntKind.i64.wrap (intOfV (List.getD len8tab ((IntKind.u8.wrap (Int.fdiv (Int.fdiv p0 4294967296) 65536)).toNat) .nils)))))))))
 (cbr (decide ((Int.fdiv p0 4294967296) ≥ (256 : Int)))
 (asr (decide ((0 : Int) ≤ (IntKind.u8.wrap (Int.fdiv (Int.fdiv p0 4294967296) 256))))
 (asr (decide ((IntKind.u8.wrap (Int.fdiv (Int.fdiv p0 4294967296) 256)) < (256 : Int)))
 (K (IntKind.i64.wrap ((40 : Int) + (IntKind.i64.wrap (intOfV (List.getD len8tab ((IntKind.u8.wrap (Int.fdiv (Int.fdiv p0 4294967296) 256)).toNat) .nils))))))))
 (asr (decide ((0 : Int) ≤ (IntKind.u8.wrap (Int.fdiv p0 4294967296))))
 (asr (decide ((IntKind.u8.wrap (Int.fdiv p0 4294967296)) < (256 : Int)))
 (K (IntKind.i64.wrap ((32 : Int) + (IntKind.i64.wrap (intOfV (List.getD len8tab ((IntKind.u8.wrap (Int.fdiv p0 4294967296)).toNat) .nils))))))))))
 (cbr (decide (p0 ≥ (65536 : Int)))
 (cbr (decide ((Int.fdiv p0 65536) ≥ (256 : Int)))
 (asr (decide ((0 : Int) ≤ (IntKind.u8.wrap (Int.fdiv (Int.fdiv p0 65536) 256))))
 (asr (decide ((IntKind.u8.wrap (Int.fdiv (Int.fdiv p0 65536) 256)) < (256 : Int)))
 (K (IntKind.i64.wrap ((24 : Int) + (IntKind.i64.wrap (intOfV (List.getD len8tab ((IntKind.u8.wrap (Int.fdiv (Int.fdiv p0 65536) 256)).toNat) .nils))))))))
 (asr (decide ((0 : Int) ≤ (IntKind.u8.wrap (Int.fdiv p0 65536))))
 (asr (decide ((IntKind.u8.wrap (Int.fdiv p0 65536)) < (256 : Int)))
 (K (IntKind.i64.wrap ((16 : Int) + (IntKind.i64.wrap (intOfV (List.getD len8tab ((IntKind.u8.wrap (Int.fdiv p0 65536)).toNat) .nils)))))))))
 (cbr (decide (p0 ≥ (256 : Int)))
 (asr (decide ((0 : Int) ≤ (IntKind.u8.wrap (Int.fdiv p0 256))))
 (asr (decide ((IntKind.u8.wrap (Int.fdiv p0 256)) < (256 : Int)))
 (K (IntKind.i64.wrap ((8 : Int) + (IntKind.i64.wrap (intOfV (List.getD len8tab ((IntKind.u8.wrap (Int.fdiv p0 256)).toNat) .nils))))))))
 (asr (decide ((0 : Int) ≤ (IntKind.u8.wrap p0)))
 (asr (decide ((IntKind.u8.wrap p0) < (256 : Int)))
 (K (IntKind.i64.wrap ((0 : Int) + (IntKind.i64.wrap (intOfV (List.getD len8tab ((IntKind.u8.wrap p0).toNat) .nils)))))))))))
def w_m_Len64 : T_ratio_size := wv_m_Len64
def sg_m_Len64 : Sg := ⟨pt3, Int → Prop, fun K => (fun r0 => K (.int .i64 r0))⟩
def S0_m_Len64 (e : Es) : SE := sE (E e) [] lp0
theorem eq_m_Len64 (e : Es) : EqW (S0_m_Len64 e) 6 t_m_Len64 sg_m_Len64 wv_m_Len64 := fun _ _ => by kernel_rfl
theorem ok_m_Len64 (e : Es) (he : EG e) : OkF (E e) (sg_m_Len64.pw w_m_Len64) n_m_Len64 := okU he (eq_m_Len64 e) (seOk_of (Sub.uni _) trivial trivial he.ok) RngOk.flat (LpOk_no (by kernel_rfl))
def wv_m_LeadingZeros64 (a0 : T_ratio_size) (p0 : Int) (K : Int → Prop) : Prop :=
 (a0 p0 (fun yi0 => 
 (K (IntKind.i64.wrap ((64 : Int) - yi0)))))
def w_m_LeadingZeros64 : T_ratio_size := wv_m_LeadingZeros64 w_m_Len64
def S0_m_LeadingZeros64 (e : Es) (a0 : T_ratio_size) : SE := sE (E e) [(n_m_Len64, sg_m_Len64.pw a0)] lp0
theorem eq_m_LeadingZeros64 (e : Es) (a0) : EqW (S0_m_LeadingZeros64 e a0) 6 t_m_LeadingZeros64 sg_m_Len64 (wv_m_LeadingZeros64 a0) := fun _ _ => by kernel_rfl
theorem ok_m_LeadingZeros64 (e : Es) (he : EG e) : OkF (E e) (sg_m_Len64.pw w_m_LeadingZeros64) n_m_LeadingZeros64 := okU he (eq_m_LeadingZeros64 e _) (seOk_of (Sub.uni _) ⟨(ok_m_Len64 e he), trivial⟩ trivial he.ok) RngOk.flat (LpOk_no (by kernel_rfl))
abbrev T_m_Div64 : Type := Int → Int → Int → (Int → Int → Prop) → Prop
mutual
def L_m_Div64_0_0 (a0 : T_ratio_size) (x60530100_0 : Int → Int → Int → Int → Int → Int → Int → Int → Int → Bool → Prop) (x60530100_1 : Int → Int → Int → Int → Int → Int → Int → Int → Int → Bool → Prop) : Nat → Int → Int → Int → Int → Int → Int → Int → Int → Int → Prop
 | 0, _, _, _, _, _, _, _, _, _ => False
 | n60530100 + 1, i0, i1, i2, i3, i4, i5, i6, i7, i8 =>
 (cbr (decide (i7 ≥ (4294967296 : Int)))
 (cbr (decide ((IntKind.u64.wrap (i8 + i2)) ≥ (4294967296 : Int)))
 (x60530100_0 i0 i1 i2 i3 i4 i5 i6 (IntKind.u64.wrap (i7 - (1 : Int))) (IntKind.u64.wrap (i8 + i2)) true)
 (L_m_Div64_0_1 a0 x60530100_0 x60530100_1 n60530100 i0 i1 i2 i3 i4 i5 i6 (IntKind.u64.wrap (i7 - (1 : Int))) (IntKind.u64.wrap (i8 + i2)) false))
 (cbr (decide ((IntKind.u64.wrap (i7 * i3)) > (IntKind.u64.wrap ((IntKind.u64.wrap ((4294967296 : Int) * i8)) + i5))))
 (cbr (decide ((IntKind.u64.wrap (i8 + i2)) ≥ (4294967296 : Int)))
 (x60530100_0 i0 i1 i2 i3 i4 i5 i6 (IntKind.u64.wrap (i7 - (1 : Int))) (IntKind.u64.wrap (i8 + i2)) true)
 (L_m_Div64_0_1 a0 x60530100_0 x60530100_1 n60530100 i0 i1 i2 i3 i4 i5 i6 (IntKind.u64.wrap (i7 - (1 : Int))) (IntKind.u64.wrap (i8 + i2)) false))
 (x60530100_1 i0 i1 i2 i3 i4 i5 i6 i7 i8 false)))
def L_m_Div64_0_1 (a0 : T_ratio_size) (x60530100_0 : Int → Int → Int → Int → Int → Int → Int → Int → Int → Bool → Prop) (x60530100_1 : Int → Int → Int → Int → Int → Int → Int → Int → Int → Bool → Prop) : Nat → Int → Int → Int → Int → Int → Int → Int → Int → Int → Bool → Prop
 | 0, _, _, _, _, _, _, _, _, _, _ => False
 | n60530100 + 1, i0, i1, i2, i3, i4, i5, i6, i7, i8, _ =>
 (cbr (decide (i7 ≥ (4294967296 : Int)))
 (cbr (decide ((IntKind.u64.wrap (i8 + i2)) ≥ (4294967296 : Int)))
 (x60530100_0 i0 i1 i2 i3 i4 i5 i6 (IntKind.u64.wrap (i7 - (1 : Int))) (IntKind.u64.wrap (i8 + i2)) true)
 (L_m_Div64_0_1 a0 x60530100_0 x60530100_1 n60530100 i0 i1 i2 i3 i4 i5 i6 (IntKind.u64.wrap (i7 - (1 : Int))) (IntKind.u64.wrap (i8 + i2)) false))
 (cbr (decide ((IntKind.u64.wrap (i7 * i3)) > (IntKind.u64.wrap ((IntKind.u64.wrap ((4294967296 : Int) * i8)) + i5))))
 (cbr (decide ((IntKind.u64.wrap (i8 + i2)) ≥ (4294967296 : Int)))
 (x60530100_0 i0 i1 i2 i3 i4 i5 i6 (IntKind.u64.wrap (i7 - (1 : Int))) (IntKind.u64.wrap (i8 + i2)) true)
 (L_m_Div64_0_1 a0 x60530100_0 x60530100_1 n60530100 i0 i1 i2 i3 i4 i5 i6 (IntKind.u64.wrap (i7 - (1 : Int))) (IntKind.u64.wrap (i8 + i2)) false))
 (x60530100_1 i0 i1 i2 i3 i4 i5 i6 i7 i8 false)))
end
mutual
def L_m_Div64_1_0 (a0 : T_ratio_size) (x60530101_0 : Int → Int → Int → Int → Int → Int → Int → Int → Int → Bool → Prop) (x60530101_1 : Int → Int → Int → Int → Int → Int → Int → Int → Int → Bool → Prop) : Nat → Int → Int → Int → Int → Int → Int → Int → Int → Int → Prop
 | 0, _, _, _, _, _, _, _, _, _ => False
 | n60530101 + 1, i0, i1, i2, i3, i4, i5, i6, i7, i8 =>
 (cbr (decide (i8 ≥ (4294967296 : Int)))
 (cbr (decide ((IntKind.u64.wrap (i6 + i2)) ≥ (4294967296 : Int)))
 (x60530101_0 i0 i1 i2 i3 i4 i5 (IntKind.u64.wrap (i6 + i2)) i7 (IntKind.u64.wrap (i8 - (1 : Int))) true)
 (L_m_Div64_1_1 a0 x60530101_0 x60530101_1 n60530101 i0 i1 i2 i3 i4 i5 (IntKind.u64.wrap (i6 + i2)) i7 (IntKind.u64.wrap (i8 - (1 : Int))) false))
 (cbr (decide ((IntKind.u64.wrap (i8 * i3)) > (IntKind.u64.wrap ((IntKind.u64.wrap ((4294967296 : Int) * i6)) + i4))))
 (cbr (decide ((IntKind.u64.wrap (i6 + i2)) ≥ (4294967296 : Int)))
 (x60530101_0 i0 i1 i2 i3 i4 i5 (IntKind.u64.wrap (i6 + i2)) i7 (IntKind.u64.wrap (i8 - (1 : Int))) true)
 (L_m_Div64_1_1 a0 x60530101_0 x60530101_1 n60530101 i0 i1 i2 i3 i4 i5 (IntKind.u64.wrap (i6 + i2)) i7 (IntKind.u64.wrap (i8 - (1 : Int))) false))
 (x60530101_1 i0 i1 i2 i3 i4 i5 i6 i7 i8 false)))
def L_m_Div64_1_1 (a0 : T_ratio_size) (x60530101_0 : Int → Int → Int → Int → Int → Int → Int → Int → Int → Bool → Prop) (x60530101_1 : Int → Int → Int → Int → Int → Int → Int → Int → Int → Bool → Prop) : Nat → Int → Int → Int → Int → Int → Int → Int → Int → Int → Bool → Prop
 | 0, _, _, _, _, _, _, _, _, _, _ => False
 | n60530101 + 1, i0, i1, i2, i3, i4, i5, i6, i7, i8, _ =>
 (cbr (decide (i8 ≥ (4294967296 : Int)))
 (cbr (decide ((IntKind.u64.wrap (i6 + i2)) ≥ (4294967296 : Int)))
 (x60530101_0 i0 i1 i2 i3 i4 i5 (IntKind.u64.wrap (i6 + i2)) i7 (IntKind.u64.wrap (i8 - (1 : Int))) true)
 (L_m_Div64_1_1 a0 x60530101_0 x60530101_1 n60530101 i0 i1 i2 i3 i4 i5 (IntKind.u64.wrap (i6 + i2)) i7 (IntKind.u64.wrap (i8 - (1 : Int))) false))
 (cbr (decide ((IntKind.u64.wrap (i8 * i3)) > (IntKind.u64.wrap ((IntKind.u64.wrap ((4294967296 : Int) * i6)) + i4))))
 (cbr (decide ((IntKind.u64.wrap (i6 + i2)) ≥ (4294967296 : Int)))
 (x60530101_0 i0 i1 i2 i3 i4 i5 (IntKind.u64.wrap (i6 + i2)) i7 (IntKind.u64.wrap (i8 - (1 : Int))) true)
 (L_m_Div64_1_1 a0 x60530101_0 x60530101_1 n60530101 i0 i1 i2 i3 i4 i5 (IntKind.u64.wrap (i6 + i2)) i7 (IntKind.u64.wrap (i8 - (1 : Int))) false))
 (x60530101_1 i0 i1 i2 i3 i4 i5 i6 i7 i8 false)))
end
def wv_m_Div64 (a0 : T_ratio_size) (p0 p1 p2 : Int) (K : Int → Int → Prop) : Prop :=
 (cbr (p2 == (0 : Int))
 False
 (cbr (decide (p2 ≤ p0))
 False
 (cbr (p0 == (0 : Int))
 (asr (!(decide (p2 = (0 : Int))))
 (asr (!(decide (p2 = (0 : Int))))
 (K (IntKind.u64.wrap (Int.tdiv p1 p2)) (Int.tmod p1 p2))))
 (a0 p2 (fun yi0 => 
 (asr (!(decide ((IntKind.u64.wrap yi0) < (0 : Int))))
 (asr (!(decide ((IntKind.u64.wrap yi0) < (0 : Int))))
 (asr (!(decide ((IntKind.u64.wrap ((64 : Int) - (IntKind.u64.wrap yi0))) < (0 : Int))))
 (asr (!(decide ((IntKind.u64.wrap yi0) < (0 : Int))))
 (asr (!(decide ((Int.fdiv (IntKind.u64.wrap (p2 * 2 ^ (min (IntKind.u64.wrap yi0).toNat IntKind.u64.bits))) 4294967296) = (0 : Int))))
 (∃ n60530100 : Nat, L_m_Div64_0_0 a0
 (fun yi1 yi2 yi3 yi4 yi5 yi6 yi7 yi8 _ _ => (asr (!(decide (yi3 = (0 : Int))))
 (∃ n60530101 : Nat, L_m_Div64_1_0 a0
 (fun yi11 yi12 _ _ yi15 yi16 _ yi18 yi19 _ => (asr (!(decide (yi12 < (0 : Int))))
 (K (IntKind.u64.wrap ((IntKind.u64.wrap (yi16 * (4294967296 : Int))) + yi19)) (Int.fdiv (IntKind.u64.wrap ((IntKind.u64.wrap ((IntKind.u64.wrap (yi18 * (4294967296 : Int))) + yi15)) - (IntKind.u64.wrap (yi19 * yi11)))) (2 ^ (min yi12.toNat IntKind.u64.bits))))))
 (fun yi21 yi22 _ _ yi25 yi26 _ yi28 yi29 _ => (asr (!(decide (yi22 < (0 : Int))))
 (K (IntKind.u64.wrap ((IntKind.u64.wrap (yi26 * (4294967296 : Int))) + yi29)) (Int.fdiv (IntKind.u64.wrap ((IntKind.u64.wrap ((IntKind.u64.wrap (yi28 * (4294967296 : Int))) + yi25)) - (IntKind.u64.wrap (yi29 * yi21)))) (2 ^ (min yi22.toNat IntKind.u64.bits))))))
 n60530101 yi1 yi2 yi3 yi4 yi7 yi8 (IntKind.u64.wrap ((IntKind.u64.wrap ((IntKind.u64.wrap ((IntKind.u64.wrap (yi5 * (4294967296 : Int))) + yi6)) - (IntKind.u64.wrap (yi8 * yi1)))) - (IntKind.u64.wrap ((IntKind.u64.wrap (Int.tdiv (IntKind.u64.wrap ((IntKind.u64.wrap ((IntKind.u64.wrap (yi5 * (4294967296 : Int))) + yi6)) - (IntKind.u64.wrap (yi8 * yi1)))) yi3)) * yi3)))) (IntKind.u64.wrap ((IntKind.u64.wrap ((IntKind.u64.wrap (yi5 * (4294967296 : Int))) + yi6)) - (IntKind.u64.wrap (yi8 * yi1)))) (IntKind.u64.wrap (Int.tdiv (IntKind.u64.wrap ((IntKind.u64.wrap ((IntKind.u64.wrap (yi5 * (4294967296 : Int))) + yi6)) - (IntKind.u64.wrap (yi8 * yi1)))) yi3)))))
 (fun yi31 yi32 yi33 yi34 yi35 yi36 yi37 yi38 _ _ => (asr (!(decide (yi33 = (0 : Int))))
 (∃ n60530101 : Nat, L_m_Div64_1_0 a0
 (fun yi41 yi42 _ _ yi45 yi46 _ yi48 yi49 _ => (asr (!(decide (yi42 < (0 : Int))))
 (K (IntKind.u64.wrap ((IntKind.u64.wrap (yi46 * (4294967296 : Int))) + yi49)) (Int.fdiv (IntKind.u64.wrap ((IntKind.u64.wrap ((IntKind.u64.wrap (yi48 * (4294967296 : Int))) + yi45)) - (IntKind.u64.wrap (yi49 * yi41)))) (2 ^ (min yi42.toNat IntKind.u64.bits))))))
 (fun yi51 yi52 _ _ yi55 yi56 _ yi58 yi59 _ => (asr (!(decide (yi52 < (0 : Int))))
 (K (IntKind.u64.wrap ((IntKind.u64.wrap (yi56 * (4294967296 : Int))) + yi59)) (Int.fdiv (IntKind.u64.wrap ((IntKind.u64.wrap ((IntKind.u64.wrap (yi58 * (4294967296 : Int))) + yi55)) - (IntKind.u64.wrap (yi59 * yi51)))) (2 ^ (min yi52.toNat IntKind.u64.bits))))))
 n60530101 yi31 yi32 yi33 yi34 yi37 yi38 (IntKind.u64.wrap ((IntKind.u64.wrap ((IntKind.u64.wrap ((IntKind.u64.wrap (yi35 * (4294967296 : Int))) + yi36)) - (IntKind.u64.wrap (yi38 * yi31)))) - (IntKind.u64.wrap ((IntKind.u64.wrap (Int.tdiv (IntKind.u64.wrap ((IntKind.u64.wrap ((IntKind.u64.wrap (yi35 * (4294967296 : Int))) + yi36)) - (IntKind.u64.wrap (yi38 * yi31)))) yi33)) * yi33)))) (IntKind.u64.wrap ((IntKind.u64.wrap ((IntKind.u64.wrap (yi35 * (4294967296 : Int))) + yi36)) - (IntKind.u64.wrap (yi38 * yi31)))) (IntKind.u64.wrap (Int.tdiv (IntKind.u64.wrap ((IntKind.u64.wrap ((IntKind.u64.wrap (yi35 * (4294967296 : Int))) + yi36)) - (IntKind.u64.wrap (yi38 * yi31)))) yi33)))))
 n60530100 (IntKind.u64.wrap (p2 * 2 ^ (min (IntKind.u64.wrap yi0).toNat IntKind.u64.bits))) (IntKind.u64.wrap yi0) (Int.fdiv (IntKind.u64.wrap (p2 * 2 ^ (min (IntKind.u64.wrap yi0).toNat IntKind.u64.bits))) 4294967296) (IntKind.u64.wrap (BitVec.ofInt IntKind.u64.bits (IntKind.u64.wrap (p2 * 2 ^ (min (IntKind.u64.wrap yi0).toNat IntKind.u64.bits))) &&& BitVec.ofInt IntKind.u64.bits (4294967295 : Int)).toNat) (IntKind.u64.wrap (BitVec.ofInt IntKind.u64.bits (IntKind.u64.wrap (p0 * 2 ^ (min (IntKind.u64.wrap yi0).toNat IntKind.u64.bits))) ||| BitVec.ofInt IntKind.u64.bits (Int.fdiv p1 (2 ^ (min (IntKind.u64.wrap ((64 : Int) - (IntKind.u64.wrap yi0))).toNat IntKind.u64.bits)))).toNat) (Int.fdiv (IntKind.u64.wrap (p1 * 2 ^ (min (IntKind.u64.wrap yi0).toNat IntKind.u64.bits))) 4294967296) (IntKind.u64.wrap (BitVec.ofInt IntKind.u64.bits (IntKind.u64.wrap (p1 * 2 ^ (min (IntKind.u64.wrap yi0).toNat IntKind.u64.bits))) &&& BitVec.ofInt IntKind.u64.bits (4294967295 : Int)).toNat) (IntKind.u64.wrap (Int.tdiv (IntKind.u64.wrap (BitVec.ofInt IntKind.u64.bits (IntKind.u64.wrap (p0 * 2 ^ (min (IntKind.u64.wrap yi0).toNat IntKind.u64.bits))) ||| BitVec.ofInt IntKind.u64.bits (Int.fdiv p1 (2 ^ (min (IntKind.u64.wrap ((64 : Int) - (IntKind.u64.wrap yi0))).toNat IntKind.u64.bits)))).toNat) (Int.fdiv (IntKind.u64.wrap (p2 * 2 ^ (min (IntKind.u64.wrap yi0).toNat IntKind.u64.bits))) 4294967296))) (IntKind.u64.wrap ((IntKind.u64.wrap (BitVec.ofInt IntKind.u64.bits (IntKind.u64.wrap (p0 * 2 ^ (min (IntKind.u64.wrap yi0).toNat IntKind.u64.bits))) ||| BitVec.ofInt IntKind.u64.bits (Int.fdiv p1 (2 ^ (min (IntKind.u64.wrap ((64 : Int) - (IntKind.u64.wrap yi0))).toNat IntKind.u64.bits)))).toNat) - (IntKind.u64.wrap ((IntKind.u64.wrap (Int.tdiv (IntKind.u64.wrap (BitVec.ofInt IntKind.u64.bits (IntKind.u64.wrap (p0 * 2 ^ (min (IntKind.u64.wrap yi0).toNat IntKind.u64.bits))) ||| BitVec.ofInt IntKind.u64.bits (Int.fdiv p1 (2 ^ (min (IntKind.u64.wrap ((64 : Int) - (IntKind.u64.wrap yi0))).toNat IntKind.u64.bits)))).toNat) (Int.fdiv (IntKind.u64.wrap (p2 * 2 ^ (min (IntKind.u64.wrap yi0).toNat IntKind.u64.bits))) 4294967296))) * (Int.fdiv (IntKind.u64.wrap (p2 * 2 ^ (min (IntKind.u64.wrap yi0).toNat IntKind.u64.bits))) 4294967296))))))))))))))))
def w_m_Div64 : T_m_Div64 := wv_m_Div64 w_m_LeadingZeros64
def sg_m_Div64 : Sg := ⟨(lC pt2 pt4), Int → Int → Prop, fun K => (fun r0 r1 => K (.tup [(.int .u64 r0), (.int .u64 r1)]))⟩
def X_m_Div64_0_0 (Q : Qx) : Int → Int → Int → Int → Int → Int → Int → Int → Int → Bool → Prop := (fun i0 i1 i2 i3 i4 i5 i6 i7 i8 b9 => Q (.exit 0) [(2, .v (.int .u64 i0)), (8, .v (.int .u64 i1)), (9, .v (.int .u64 i2)), (10, .v (.int .u64 i3)), (11, .v (.int .u64 i4)), (13, .v (.int .u64 i5)), (14, .v (.int .u64 i6)), (15, .v (.int .u64 i7)), (16, .v (.int .u64 i8)), (85, .v (.bool b9))] [])
def X_m_Div64_0_1 (Q : Qx) : Int → Int → Int → Int → Int → Int → Int → Int → Int → Bool → Prop := (fun i0 i1 i2 i3 i4 i5 i6 i7 i8 b9 => Q (.exit 0) [(2, .v (.int .u64 i0)), (8, .v (.int .u64 i1)), (9, .v (.int .u64 i2)), (10, .v (.int .u64 i3)), (11, .v (.int .u64 i4)), (13, .v (.int .u64 i5)), (14, .v (.int .u64 i6)), (15, .v (.int .u64 i7)), (16, .v (.int .u64 i8)), (78, .v (.bool b9))] [])
def X_m_Div64_1_0 (Q : Qx) : Int → Int → Int → Int → Int → Int → Int → Int → Int → Bool → Prop := (fun i0 i1 i2 i3 i4 i5 i6 i7 i8 b9 => Q (.exit 2) [(2, .v (.int .u64 i0)), (8, .v (.int .u64 i1)), (9, .v (.int .u64 i2)), (10, .v (.int .u64 i3)), (14, .v (.int .u64 i4)), (15, .v (.int .u64 i5)), (16, .v (.int .u64 i6)), (17, .v (.int .u64 i7)), (18, .v (.int .u64 i8)), (120, .v (.bool b9))] [])
def X_m_Div64_1_1 (Q : Qx) : Int → Int → Int → Int → Int → Int → Int → Int → Int → Bool → Prop := (fun i0 i1 i2 i3 i4 i5 i6 i7 i8 b9 => Q (.exit 2) [(2, .v (.int .u64 i0)), (8, .v (.int .u64 i1)), (9, .v (.int .u64 i2)), (10, .v (.int .u64 i3)), (14, .v (.int .u64 i4)), (15, .v (.int .u64 i5)), (16, .v (.int .u64 i6)), (17, .v (.int .u64 i7)), (18, .v (.int .u64 i8)), (113, .v (.bool b9))] [])
def St_m_Div64_0 (a0 : T_ratio_size) (Q : Qx) : List St := [⟨(pS hN (fV 2 pt2 (fV 8 pt2 (fV 9 pt2 (fV 10 pt2 (fV 11 pt2 (fV 13 pt2 (fV 14 pt2 (fV 15 pt2 (fV 16 pt2 fN))))))))) fN), L_m_Div64_0_0 a0 (X_m_Div64_0_0 Q) (X_m_Div64_0_1 Q)⟩, ⟨(pS hN (fV 2 pt2 (fV 8 pt2 (fV 9 pt2 (fV 10 pt2 (fV 11 pt2 (fV 13 pt2 (fV 14 pt2 (fV 15 pt2 (fV 16 pt2 (fV 85 vB fN)))))))))) fN), L_m_Div64_0_1 a0 (X_m_Div64_0_0 Q) (X_m_Div64_0_1 Q)⟩]
def St_m_Div64_1 (a0 : T_ratio_size) (Q : Qx) : List St := [⟨(pS hN (fV 2 pt2 (fV 8 pt2 (fV 9 pt2 (fV 10 pt2 (fV 14 pt2 (fV 15 pt2 (fV 16 pt2 (fV 17 pt2 (fV 18 pt2 fN))))))))) fN), L_m_Div64_1_0 a0 (X_m_Div64_1_0 Q) (X_m_Div64_1_1 Q)⟩, ⟨(pS hN (fV 2 pt2 (fV 8 pt2 (fV 9 pt2 (fV 10 pt2 (fV 14 pt2 (fV 15 pt2 (fV 16 pt2 (fV 17 pt2 (fV 18 pt2 (fV 120 vB fN)))))))))) fN), L_m_Div64_1_1 a0 (X_m_Div64_1_0 Q) (X_m_Div64_1_1 Q)⟩]
def lp_m_Div64 (a0 : T_ratio_size) : LP := lpS [(60530100, St_m_Div64_0 a0), (60530101, St_m_Div64_1 a0)]
def S0_m_Div64 (e : Es) (a0 : T_ratio_size) : SE := sE (E e) [(n_m_LeadingZeros64, sg_m_Len64.pw a0)] (lp_m_Div64 a0)
theorem se0_m_Div64 (e : Es) (he : EG e) : SEOk (Uni (E e)) (S0_m_Div64 e w_m_LeadingZeros64) := seOk_of (Sub.uni _) ⟨(ok_m_LeadingZeros64 e he), trivial⟩ trivial he.ok
theorem body_m_Div64_0 (e : Es) (a0) : BodOk (S0_m_Div64 e a0) 5 yk0 b_60530100 false (St_m_Div64_0 a0) := fun _ => ⟨fun _ => by kernel_rfl, fun _ _ => by kernel_rfl, fun _ => by kernel_rfl, fun _ _ => by kernel_rfl, trivial⟩
theorem loop_m_Div64_0 (e : Es) (he : EG e) : LpT (Uni (E e)) (lp_m_Div64 w_m_LeadingZeros64) [] 60530100 (.loop 60530100 b_60530100) := fun _ _ _ => LoopT.st (Sub.uni _) (callW_ok (se0_m_Div64 e he) 5) (YOk.no _ _) (LpOk_no (by kernel_rfl)) (body_m_Div64_0 e _ _)
theorem body_m_Div64_1 (e : Es) (a0) : BodOk (S0_m_Div64 e a0) 5 yk0 b_60530101 false (St_m_Div64_1 a0) := fun _ => ⟨fun _ => by kernel_rfl, fun _ _ => by kernel_rfl, fun _ => by kernel_rfl, fun _ _ => by kernel_rfl, trivial⟩
theorem loop_m_Div64_1 (e : Es) (he : EG e) : LpT (Uni (E e)) (lp_m_Div64 w_m_LeadingZeros64) [] 60530101 (.loop 60530101 b_60530101) := fun _ _ _ => LoopT.st (Sub.uni _) (callW_ok (se0_m_Div64 e he) 5) (YOk.no _ _) (LpOk_no (by kernel_rfl)) (body_m_Div64_1 e _ _)
theorem eq_m_Div64 (e : Es) (a0) : EqW (S0_m_Div64 e a0) 6 t_m_Div64 sg_m_Div64 (wv_m_Div64 a0) := fun _ _ => by kernel_rfl
theorem ok_m_Div64 (e : Es) (he : EG e) : OkF (E e) (sg_m_Div64.pw w_m_Div64) n_m_Div64 := okU he (eq_m_Div64 e _) (se0_m_Div64 e he) RngOk.flat (LpOk_by (l := [(60530100, .loop 60530100 b_60530100), (60530101, .loop 60530101 b_60530101)]) ⟨loop_m_Div64_0 e he, loop_m_Div64_1 e he, trivial⟩ (by kernel_rfl))
abbrev T_m_Rem64 : Type := Int → Int → Int → (Int → Prop) → Prop
def wv_m_Rem64 (a0 : T_m_Div64) (p0 p1 p2 : Int) (K : Int → Prop) : Prop :=
 (asr (!(decide (p2 = (0 : Int))))
 (a0 (Int.tmod p0 p2) p1 p2 (fun _ yi1 => 
 (K yi1))))
def w_m_Rem64 : T_m_Rem64 := wv_m_Rem64 w_m_Div64
def sg_m_Rem64 : Sg := ⟨(lC pt2 pt4), Int → Prop, fun K => (fun r0 => K (.int .u64 r0))⟩
def S0_m_Rem64 (e : Es) (a0 : T_m_Div64) : SE := sE (E e) [(n_m_Div64, sg_m_Div64.pw a0)] lp0
theorem eq_m_Rem64 (e : Es) (a0) : EqW (S0_m_Rem64 e a0) 6 t_m_Rem64 sg_m_Rem64 (wv_m_Rem64 a0) := fun _ _ => by kernel_rfl
theorem ok_m_Rem64 (e : Es) (he : EG e) : OkF (E e) (sg_m_Rem64.pw w_m_Rem64) n_m_Rem64 := okU he (eq_m_Rem64 e _) (seOk_of (Sub.uni _) ⟨(ok_m_Div64 e he), trivial⟩ trivial he.ok) RngOk.flat (LpOk_no (by kernel_rfl))
abbrev T_ratio_Add : Type := Int → Int → Int → Int → (Int → Int → Int → Prop) → Prop
def wv_ratio_Add (a0 : T_ratio_check) (a1 : T_ratio_gcd) (a2 : T_ratio_size) (a3 : T_m_Mul64) (a4 : T_m_Add64) (a5 : T_m_Rem64) (a6 : T_m_Div64) (a7 : T_ratio_signed) (a8 : T_m_Sub64) (p0 p1 p2 p3 : Int) (K : Int → Int → Int → Prop) : Prop :=
 (a0 p0 p1 p2 p3 (fun yi0 => 
 (cbr (yi0 != (0 : Int))
 (K (0 : Int) (0 : Int) yi0)
 (a1 (IntKind.u64.wrap p1) (IntKind.u64.wrap p3) (fun yi1 => 
 (a2 p0 (fun yi2 => 
 (asr (!(decide (yi1 = (0 : Int))))
 (a3 yi2 (IntKind.u64.wrap (Int.tdiv (IntKind.u64.wrap p3) yi1)) (fun yi3 yi4 => 
 (a2 p2 (fun yi5 => 
 (asr (!(decide (yi1 = (0 : Int))))
 (a3 yi5 (IntKind.u64.wrap (Int.tdiv (IntKind.u64.wrap p1) yi1)) (fun yi6 yi7 => 
 (cbr ((decide (p0 < (0 : Int))) == (decide (p2 < (0 : Int))))
 (a4 yi4 yi7 (0 : Int) (fun yi8 yi9 => 
 (a4 yi3 yi6 yi9 (fun yi10 _ => 
 (cbr (yi10 == (0 : Int))
 (cbr (yi8 == (0 : Int))
 (K (0 : Int) (1 : Int) (0 : Int))
 (a5 yi10 yi8 yi1 (fun yi12 => 
 (a1 yi12 yi1 (fun yi13 => 
 (cbr (decide (yi10 ≥ yi13))
 (K (0 : Int) (0 : Int) (16 : Int))
 (a6 yi10 yi8 yi13 (fun yi14 _ => 
 (asr (!(decide (yi1 = (0 : Int))))
 (asr (!(decide (yi13 = (0 : Int))))
 (a3 (IntKind.u64.wrap (Int.tdiv (IntKind.u64.wrap p1) yi1)) (IntKind.u64.wrap (Int.tdiv (IntKind.u64.wrap p3) yi13)) (fun yi16 yi17 => 
 (cbr (decide (yi16 > (0 : Int)))
 (K (0 : Int) (0 : Int) (16 : Int))
 (a7 (decide (p0 < (0 : Int))) yi14 yi17 (fun yi18 yi19 yi20 => 
 (K yi18 yi19 yi20))))))))))))))))
 (a5 yi10 yi8 yi1 (fun yi21 => 
 (a1 yi21 yi1 (fun yi22 => 
 (cbr (decide (yi10 ≥ yi22))
 (K (0 : Int) (0 : Int) (16 : Int))
 (a6 yi10 yi8 yi22 (fun yi23 _ => 
 (asr (!(decide (yi1 = (0 : Int))))
 (asr (!(decide (yi22 = (0 : Int))))
 (a3 (IntKind.u64.wrap (Int.tdiv (IntKind.u64.wrap p1) yi1)) (IntKind.u64.wrap (Int.tdiv (IntKind.u64.wrap p3) yi22)) (fun yi25 yi26 => 
 (cbr (decide (yi25 > (0 : Int)))
 (K (0 : Int) (0 : Int) (16 : Int))
 (a7 (decide (p0 < (0 : Int))) yi23 yi26 (fun yi27 yi28 yi29 => 
 (K yi27 yi28 yi29))))))))))))))))))))
 (cbr (decide (yi3 < yi6))
 (a8 yi7 yi4 (0 : Int) (fun yi30 yi31 => 
 (a8 yi6 yi3 yi31 (fun yi32 _ => 
 (cbr (yi32 == (0 : Int))
 (cbr (yi30 == (0 : Int))
 (K (0 : Int) (1 : Int) (0 : Int))
 (a5 yi32 yi30 yi1 (fun yi34 => 
 (a1 yi34 yi1 (fun yi35 => 
 (cbr (decide (yi32 ≥ yi35))
 (K (0 : Int) (0 : Int) (16 : Int))
 (a6 yi32 yi30 yi35 (fun yi36 _ => 
 (asr (!(decide (yi1 = (0 : Int))))
 (asr (!(decide (yi35 = (0 : Int))))
 (a3 (IntKind.u64.wrap (Int.tdiv (IntKind.u64.wrap p1) yi1)) (IntKind.u64.wrap (Int.tdiv (IntKind.u64.wrap p3) yi35)) (fun yi38 yi39 => 
 (cbr (decide (yi38 > (0 : Int)))
 (K (0 : Int) (0 : Int) (16 : Int))
 (a7 (!(decide (p0 < (0 : Int)))) yi36 yi39 (fun yi40 yi41 yi42 => 
 (K yi40 yi41 yi42))))))))))))))))
 (a5 yi32 yi30 yi1 (fun yi43 => 
 (a1 yi43 yi1 (fun yi44 => 
 (cbr (decide (yi32 ≥ yi44))
 (K (0 : Int) (0 : Int) (16 : Int))
 (a6 yi32 yi30 yi44 (fun yi45 _ => 
 (asr (!(decide (yi1 = (0 : Int))))
 (asr (!(decide (yi44 = (0 : Int))))
 (a3 (IntKind.u64.wrap (Int.tdiv (IntKind.u64.wrap p1) yi1)) (IntKind.u64.wrap (Int.tdiv (IntKind.u64.wrap p3) yi44)) (fun yi47 yi48 => 
 (cbr (decide (yi47 > (0 : Int)))
 (K (0 : Int) (0 : Int) (16 : Int))
 (a7 (!(decide (p0 < (0 : Int)))) yi45 yi48 (fun yi49 yi50 yi51 => 
 (K yi49 yi50 yi51))))))))))))))))))))
 (cbr (yi3 == yi6)
 (cbr (decide (yi4 < yi7))
 (a8 yi7 yi4 (0 : Int) (fun yi52 yi53 => 
 (a8 yi6 yi3 yi53 (fun yi54 _ => 
 (cbr (yi54 == (0 : Int))
 (cbr (yi52 == (0 : Int))
 (K (0 : Int) (1 : Int) (0 : Int))
 (a5 yi54 yi52 yi1 (fun yi56 => 
 (a1 yi56 yi1 (fun yi57 => 
 (cbr (decide (yi54 ≥ yi57))
 (K (0 : Int) (0 : Int) (16 : Int))
 (a6 yi54 yi52 yi57 (fun yi58 _ => 
 (asr (!(decide (yi1 = (0 : Int))))
 (asr (!(decide (yi57 = (0 : Int))))
 (a3 (IntKind.u64.wrap (Int.tdiv (IntKind.u64.wrap p1) yi1)) (IntKind.u64.wrap (Int.tdiv (IntKind.u64.wrap p3) yi57)) (fun yi60 yi61 => 
 (cbr (decide (yi60 > (0 : Int)))
 (K (0 : Int) (0 : Int) (16 : Int))
 (a7 (!(decide (p0 < (0 : Int)))) yi58 yi61 (fun yi62 yi63 yi64 => 
 (K yi62 yi63 yi64))))))))))))))))
 (a5 yi54 yi52 yi1 (fun yi65 => 
 (a1 yi65 yi1 (fun yi66 => 
 (cbr (decide (yi54 ≥ yi66))
 (K (0 : Int) (0 : Int) (16 : Int))
 (a6 yi54 yi52 yi66 (fun yi67 _ => 
 (asr (!(decide (yi1 = (0 : Int))))
 (asr (!(decide (yi66 = (0 : Int))))
 (a3 (IntKind.u64.wrap (Int.tdiv (IntKind.u64.wrap p1) yi1)) (IntKind.u64.wrap (Int.tdiv (IntKind.u64.wrap p3) yi66)) (fun yi69 yi70 => 
 (cbr (decide (yi69 > (0 : Int)))
 (K (0 : Int) (0 : Int) (16 : Int))
 (a7 (!(decide (p0 < (0 : Int)))) yi67 yi70 (fun yi71 yi72 yi73 => 
 (K yi71 yi72 yi73))))))))))))))))))))
 (a8 yi4 yi7 (0 : Int) (fun yi74 yi75 => 
 (a8 yi3 yi6 yi75 (fun yi76 _ => 
 (cbr (yi76 == (0 : Int))
 (cbr (yi74 == (0 : Int))
 (K (0 : Int) (1 : Int) (0 : Int))
 (a5 yi76 yi74 yi1 (fun yi78 => 
 (a1 yi78 yi1 (fun yi79 => 
 (cbr (decide (yi76 ≥ yi79))
 (K (0 : Int) (0 : Int) (16 : Int))
 (a6 yi76 yi74 yi79 (fun yi80 _ => 
 (asr (!(decide (yi1 = (0 : Int))))
 (asr (!(decide (yi79 = (0 : Int))))
 (a3 (IntKind.u64.wrap (Int.tdiv (IntKind.u64.wrap p1) yi1)) (IntKind.u64.wrap (Int.tdiv (IntKind.u64.wrap p3) yi79)) (fun yi82 yi83 => 
 (cbr (decide (yi82 > (0 : Int)))
 (K (0 : Int) (0 : Int) (16 : Int))
 (a7 (decide (p0 < (0 : Int))) yi80 yi83 (fun yi84 yi85 yi86 => 
 (K yi84 yi85 yi86))))))))))))))))
 (a5 yi76 yi74 yi1 (fun yi87 => 
 (a1 yi87 yi1 (fun yi88 => 
 (cbr (decide (yi76 ≥ yi88))
 (K (0 : Int) (0 : Int) (16 : Int))
 (a6 yi76 yi74 yi88 (fun yi89 _ => 
 (asr (!(decide (yi1 = (0 : Int))))
 (asr (!(decide (yi88 = (0 : Int))))
 (a3 (IntKind.u64.wrap (Int.tdiv (IntKind.u64.wrap p1) yi1)) (IntKind.u64.wrap (Int.tdiv (IntKind.u64.wrap p3) yi88)) (fun yi91 yi92 => 
 (cbr (decide (yi91 > (0 : Int)))
 (K (0 : Int) (0 : Int) (16 : Int))
 (a7 (decide (p0 < (0 : Int))) yi89 yi92 (fun yi93 yi94 yi95 => 
 (K yi93 yi94 yi95)))))))))))))))))))))
 (a8 yi4 yi7 (0 : Int) (fun yi96 yi97 => 
 (a8 yi3 yi6 yi97 (fun yi98 _ => 
 (cbr (yi98 == (0 : Int))
 (cbr (yi96 == (0 : Int))
 (K (0 : Int) (1 : Int) (0 : Int))
 (a5 yi98 yi96 yi1 (fun yi100 => 
 (a1 yi100 yi1 (fun yi101 => 
 (cbr (decide (yi98 ≥ yi101))
 (K (0 : Int) (0 : Int) (16 : Int))
 (a6 yi98 yi96 yi101 (fun yi102 _ => 
 (asr (!(decide (yi1 = (0 : Int))))
 (asr (!(decide (yi101 = (0 : Int))))
 (a3 (IntKind.u64.wrap (Int.tdiv (IntKind.u64.wrap p1) yi1)) (IntKind.u64.wrap (Int.tdiv (IntKind.u64.wrap p3) yi101)) (fun yi104 yi105 => 
 (cbr (decide (yi104 > (0 : Int)))
 (K (0 : Int) (0 : Int) (16 : Int))
 (a7 (decide (p0 < (0 : Int))) yi102 yi105 (fun yi106 yi107 yi108 => 
 (K yi106 yi107 yi108))))))))))))))))
 (a5 yi98 yi96 yi1 (fun yi109 => 
 (a1 yi109 yi1 (fun yi110 => 
 (cbr (decide (yi98 ≥ yi110))
 (K (0 : Int) (0 : Int) (16 : Int))
 (a6 yi98 yi96 yi110 (fun yi111 _ => 
 (asr (!(decide (yi1 = (0 : Int))))
 (asr (!(decide (yi110 = (0 : Int))))
 (a3 (IntKind.u64.wrap (Int.tdiv (IntKind.u64.wrap p1) yi1)) (IntKind.u64.wrap (Int.tdiv (IntKind.u64.wrap p3) yi110)) (fun yi113 yi114 => 
 (cbr (decide (yi113 > (0 : Int)))
 (K (0 : Int) (0 : Int) (16 : Int))
 (a7 (decide (p0 < (0 : Int))) yi111 yi114 (fun yi115 yi116 yi117 => 
 (K yi115 yi116 yi117))))))))))))))))))))))))))))))))))))))
def w_ratio_Add : T_ratio_Add := wv_ratio_Add w_ratio_check w_ratio_gcd w_ratio_size w_m_Mul64 w_m_Add64 w_m_Rem64 w_m_Div64 w_ratio_signed w_m_Sub64
def sg_ratio_Add : Sg := ⟨pt9, Int → Int → Int → Prop, fun K => (fun r0 r1 r2 => K (.tup [(.agg [(.int .i64 r0), (.int .i64 r1)]), (.int .i64 r2)]))⟩
def S0_ratio_Add (e : Es) (a0 : T_ratio_check) (a1 : T_ratio_gcd) (a2 : T_ratio_size) (a3 : T_m_Mul64) (a4 : T_m_Add64) (a5 : T_m_Rem64) (a6 : T_m_Div64) (a7 : T_ratio_signed) (a8 : T_m_Sub64) : SE := sE (E e) [(n_ratio_check, sg_ratio_check.pw a0), (n_ratio_gcd, sg_ratio_gcd.pw a1), (n_ratio_size, sg_ratio_size.pw a2), (n_m_Mul64, sg_m_Mul64.pw a3), (n_m_Add64, pw_m_Add64 a4), (n_m_Rem64, sg_m_Rem64.pw a5), (n_m_Div64, sg_m_Div64.pw a6), (n_ratio_signed, sg_ratio_signed.pw a7), (n_m_Sub64, pw_m_Sub64 a8)] lp0
theorem eq_ratio_Add (e : Es) (a0 a1 a2 a3 a4 a5 a6 a7 a8) : EqW (S0_ratio_Add e a0 a1 a2 a3 a4 a5 a6 a7 a8) 6 t_ratio_Add sg_ratio_Add (wv_ratio_Add a0 a1 a2 a3 a4 a5 a6 a7 a8) := fun _ _ => by kernel_rfl
theorem ok_ratio_Add (e : Es) (he : EG e) : OkF (E e) (sg_ratio_Add.pw w_ratio_Add) n_ratio_Add := okU he (eq_ratio_Add e _ _ _ _ _ _ _ _ _) (seOk_of (Sub.uni _) ⟨(ok_ratio_check e he), (ok_ratio_gcd e he), (ok_ratio_size e he), (ok_m_Mul64 e he), (ok_m_Add64 e he), (ok_m_Rem64 e he), (ok_m_Div64 e he), (ok_ratio_signed e he), (ok_m_Sub64 e he), trivial⟩ trivial he.ok) RngOk.flat (LpOk_no (by kernel_rfl))
def wv_ratio_Sub (a0 : T_ratio_check) (a1 : T_ratio_Add) (p0 p1 p2 p3 : Int) (K : Int → Int → Int → Prop) : Prop :=
 (a0 p0 p1 p2 p3 (fun yi0 => 
 (cbr (yi0 != (0 : Int))
 (K (0 : Int) (0 : Int) yi0)
 (a1 p0 p1 (IntKind.i64.wrap ((0 : Int) - p2)) p3 (fun yi1 yi2 yi3 => 
 (K yi1 yi2 yi3))))))
def w_ratio_Sub : T_ratio_Add := wv_ratio_Sub w_ratio_check w_ratio_Add
def S0_ratio_Sub (e : Es) (a0 : T_ratio_check) (a1 : T_ratio_Add) : SE := sE (E e) [(n_ratio_check, sg_ratio_check.pw a0), (n_ratio_Add, sg_ratio_Add.pw a1)] lp0
theorem eq_ratio_Sub (e : Es) (a0 a1) : EqW (S0_ratio_Sub e a0 a1) 6 t_ratio_Sub sg_ratio_Add (wv_ratio_Sub a0 a1) := fun _ _ => by kernel_rfl
theorem ok_ratio_Sub (e : Es) (he : EG e) : OkF (E e) (sg_ratio_Add.pw w_ratio_Sub) n_ratio_Sub := okU he (eq_ratio_Sub e _ _) (seOk_of (Sub.uni _) ⟨(ok_ratio_check e he), (ok_ratio_Add e he), trivial⟩ trivial he.ok) RngOk.flat (LpOk_no (by kernel_rfl))
def wv_ratio_Mul (a0 : T_ratio_check) (a1 : T_ratio_size) (a2 : T_ratio_gcd) (a3 : T_m_Mul64) (a4 : T_ratio_signed) (p0 p1 p2 p3 : Int) (K : Int → Int → Int → Prop) : Prop :=
 (a0 p0 p1 p2 p3 (fun yi0 => 
 (cbr (yi0 != (0 : Int))
 (K (0 : Int) (0 : Int) yi0)
 (a1 p0 (fun yi1 => 
 (a1 p2 (fun yi2 => 
 (a2 yi1 (IntKind.u64.wrap p3) (fun yi3 => 
 (a2 yi2 (IntKind.u64.wrap p1) (fun yi4 => 
 (asr (!(decide (yi3 = (0 : Int))))
 (asr (!(decide (yi4 = (0 : Int))))
 (a3 (IntKind.u64.wrap (Int.tdiv yi1 yi3)) (IntKind.u64.wrap (Int.tdiv yi2 yi4)) (fun yi5 yi6 => 
 (asr (!(decide (yi4 = (0 : Int))))
 (asr (!(decide (yi3 = (0 : Int))))
 (a3 (IntKind.u64.wrap (Int.tdiv (IntKind.u64.wrap p1) yi4)) (IntKind.u64.wrap (Int.tdiv (IntKind.u64.wrap p3) yi3)) (fun yi7 yi8 => 
 (cbr (decide ((IntKind.u64.wrap (yi5 + yi7)) > (0 : Int)))
 (K (0 : Int) (0 : Int) (16 : Int))
 (cbr (decide (yi6 > (0 : Int)))
 (a4 ((decide (p0 < (0 : Int))) != (decide (p2 < (0 : Int)))) yi6 yi8 (fun yi9 yi10 yi11 => 
 (K yi9 yi10 yi11)))
 (a4 false yi6 yi8 (fun yi12 yi13 yi14 => 
 (K yi12 yi13 yi14))))))))))))))))))))))))
def w_ratio_Mul : T_ratio_Add := wv_ratio_Mul w_ratio_check w_ratio_size w_ratio_gcd w_m_Mul64 w_ratio_signed
def S0_ratio_Mul (e : Es) (a0 : T_ratio_check) (a1 : T_ratio_size) (a2 : T_ratio_gcd) (a3 : T_m_Mul64) (a4 : T_ratio_signed) : SE := sE (E e) [(n_ratio_check, sg_ratio_check.pw a0), (n_ratio_size, sg_ratio_size.pw a1), (n_ratio_gcd, sg_ratio_gcd.pw a2), (n_m_Mul64, sg_m_Mul64.pw a3), (n_ratio_signed, sg_ratio_signed.pw a4)] lp0
theorem eq_ratio_Mul (e : Es) (a0 a1 a2 a3 a4) : EqW (S0_ratio_Mul e a0 a1 a2 a3 a4) 6 t_ratio_Mul sg_ratio_Add (wv_ratio_Mul a0 a1 a2 a3 a4) := fun _ _ => by kernel_rfl
theorem ok_ratio_Mul (e : Es) (he : EG e) : OkF (E e) (sg_ratio_Add.pw w_ratio_Mul) n_ratio_Mul := okU he (eq_ratio_Mul e _ _ _ _ _) (seOk_of (Sub.uni _) ⟨(ok_ratio_check e he), (ok_ratio_size e he), (ok_ratio_gcd e he), (ok_m_Mul64 e he), (ok_ratio_signed e he), trivial⟩ trivial he.ok) RngOk.flat (LpOk_no (by kernel_rfl))
def wv_ratio_Div (a0 : T_ratio_check) (a1 : T_ratio_Add) (p0 p1 p2 p3 : Int) (K : Int → Int → Int → Prop) : Prop :=
 (a0 p0 p1 p2 p3 (fun yi0 => 
 (cbr (yi0 != (0 : Int))
 (K (0 : Int) (0 : Int) yi0)
 (cbr (p2 == (0 : Int))
 (K (0 : Int) (0 : Int) (18 : Int))
 (cbr (decide (p2 < (0 : Int)))
 (a1 p0 p1 (IntKind.i64.wrap ((0 : Int) - p3)) (IntKind.i64.wrap ((0 : Int) - p2)) (fun yi1 yi2 yi3 => 
 (K yi1 yi2 yi3)))
 (a1 p0 p1 p3 p2 (fun yi4 yi5 yi6 => 
 (K yi4 yi5 yi6))))))))
def w_ratio_Div : T_ratio_Add := wv_ratio_Div w_ratio_check w_ratio_Mul
def S0_ratio_Div (e : Es) (a0 : T_ratio_check) (a1 : T_ratio_Add) : SE := sE (E e) [(n_ratio_check, sg_ratio_check.pw a0), (n_ratio_Mul, sg_ratio_Add.pw a1)] lp0
theorem eq_ratio_Div (e : Es) (a0 a1) : EqW (S0_ratio_Div e a0 a1) 6 t_ratio_Div sg_ratio_Add (wv_ratio_Div a0 a1) := fun _ _ => by kernel_rfl
theorem ok_ratio_Div (e : Es) (he : EG e) : OkF (E e) (sg_ratio_Add.pw w_ratio_Div) n_ratio_Div := okU he (eq_ratio_Div e _ _) (seOk_of (Sub.uni _) ⟨(ok_ratio_check e he), (ok_ratio_Mul e he), trivial⟩ trivial he.ok) RngOk.flat (LpOk_no (by kernel_rfl))
def wv_m_Len (a0 : T_ratio_size) (p0 : Int) (K : Int → Prop) : Prop :=
 (a0 p0 (fun yi1 => 
 (K yi1)))
def w_m_Len : T_ratio_size := wv_m_Len w_m_Len64
def S0_m_Len (e : Es) (a0 : T_ratio_size) : SE := sE (E e) [(n_m_Len64, sg_m_Len64.pw a0)] lp0
theorem eq_m_Len (e : Es) (a0) : EqW (S0_m_Len e a0) 6 t_m_Len sg_m_Len64 (wv_m_Len a0) := fun _ _ => by kernel_rfl
theorem ok_m_Len (e : Es) (he : EG e) : OkF (E e) (sg_m_Len64.pw w_m_Len) n_m_Len := okU he (eq_m_Len e _) (seOk_of (Sub.uni _) ⟨(ok_m_Len64 e he), trivial⟩ trivial he.ok) RngOk.flat (LpOk_no (by kernel_rfl))
def wv_cmp_isNaN_int (p0 : Int) (K : Bool → Prop) : Prop :=
 (K (p0 != p0))
def w_cmp_isNaN_int : T_cmp_isNaN_int64 := wv_cmp_isNaN_int
def S0_cmp_isNaN_int (e : Es) : SE := sE (E e) [] lp0
theorem eq_cmp_isNaN_int (e : Es) : EqW (S0_cmp_isNaN_int e) 6 t_cmp_isNaN_int sg_cmp_isNaN_int64 wv_cmp_isNaN_int := fun _ _ => by kernel_rfl
theorem ok_cmp_isNaN_int (e : Es) (he : EG e) : OkF (E e) (sg_cmp_isNaN_int64.pw w_cmp_isNaN_int) n_cmp_isNaN_int := okU he (eq_cmp_isNaN_int e) (seOk_of (Sub.uni _) trivial trivial he.ok) RngOk.flat (LpOk_no (by kernel_rfl))
abbrev T_cmp_Less_int : Type := Int → Int → (Bool → Prop) → Prop
def wv_cmp_Less_int (a0 : T_cmp_isNaN_int64) (p0 p1 : Int) (K : Bool → Prop) : Prop :=
 (jn (fun (yj3 : Bool → Prop) =>
 (a0 p0 (fun yb4 => 
 (cbr yb4
 (a0 p1 (fun yb5 => 
 (cbr (!yb5)
 (yj3 true)
 (yj3 (decide (p0 < p1))))))
 (yj3 (decide (p0 < p1)))))))
 (fun yb2 => (K yb2)))
def w_cmp_Less_int : T_cmp_Less_int := wv_cmp_Less_int w_cmp_isNaN_int
def sg_cmp_Less_int : Sg := ⟨pt5, Bool → Prop, fun K => (fun r0 => K (.bool r0))⟩
def S0_cmp_Less_int (e : Es) (a0 : T_cmp_isNaN_int64) : SE := sE (E e) [(n_cmp_isNaN_int, sg_cmp_isNaN_int64.pw a0)] lp0
theorem eq_cmp_Less_int (e : Es) (a0) : EqW (S0_cmp_Less_int e a0) 6 t_cmp_Less_int sg_cmp_Less_int (wv_cmp_Less_int a0) := fun _ _ => by kernel_rfl
theorem ok_cmp_Less_int (e : Es) (he : EG e) : OkF (E e) (sg_cmp_Less_int.pw w_cmp_Less_int) n_cmp_Less_int := okU he (eq_cmp_Less_int e _) (seOk_of (Sub.uni _) ⟨(ok_cmp_isNaN_int e he), trivial⟩ trivial he.ok) RngOk.flat (LpOk_no (by kernel_rfl))
end Go.Pf.Vc
namespace Go.Pf.Vc
open Go Go.Pf
set_option linter.unusedVariables false
theorem det_ratio_Check (p0 : Int) (p1 : Int) (r0 : Int) (h : ∀ K : Int → Prop, K r0 → w_ratio_Check p0 p1 K) (K : Int → Prop) : w_ratio_Check p0 p1 K = K r0 :=
 propext ⟨fun k => detC (ok_ratio_Check [] effG_nil) (az := [(.agg [(.int .i64 p0), (.int .i64 p1)])]) (x := (.int .i64 r0)) (fun K' k' => h (fun r0 => K' (.int .i64 r0)) k') (K := fun x => match x with | (.int .i64 r0) => K r0 | _ => False) k, h K⟩
theorem det_ratio_Cmp (p0 : Int) (p1 : Int) (p2 : Int) (p3 : Int) (r0 : Int) (r1 : Int) (h : ∀ K : Int → Int → Prop, K r0 r1 → w_ratio_Cmp p0 p1 p2 p3 K) (K : Int → Int → Prop) : w_ratio_Cmp p0 p1 p2 p3 K = K r0 r1 :=
 propext ⟨fun k => detC (ok_ratio_Cmp [] effG_nil) (az := [(.agg [(.int .i64 p0), (.int .i64 p1)]), (.agg [(.int .i64 p2), (.int .i64 p3)])]) (x := (.tup [(.int .i64 r0), (.int .i64 r1)])) (fun K' k' => h (fun r0 r1 => K' (.tup [(.int .i64 r0), (.int .i64 r1)])) k') (K := fun x => match x with | (.tup [(.int .i64 r0), (.int .i64 r1)]) => K r0 r1 | _ => False) k, h K⟩
theorem det_ratio_Make (p0 : Int) (p1 : Int) (r0 : Int) (r1 : Int) (r2 : Int) (h : ∀ K : Int → Int → Int → Prop, K r0 r1 r2 → w_ratio_Make p0 p1 K) (K : Int → Int → Int → Prop) : w_ratio_Make p0 p1 K = K r0 r1 r2 :=
 propext ⟨fun k => detC (ok_ratio_Make [] effG_nil) (az := [(.int .i64 p0), (.int .i64 p1)]) (x := (.tup [(.agg [(.int .i64 r0), (.int .i64 r1)]), (.int .i64 r2)])) (fun K' k' => h (fun r0 r1 r2 => K' (.tup [(.agg [(.int .i64 r0), (.int .i64 r1)]), (.int .i64 r2)])) k') (K := fun x => match x with | (.tup [(.agg [(.int .i64 r0), (.int .i64 r1)]), (.int .i64 r2)]) => K r0 r1 r2 | _ => False) k, h K⟩
theorem det_m_Len64 (p0 : Int) (r0 : Int) (h : ∀ K : Int → Prop, K r0 → w_m_Len64 p0 K) (K : Int → Prop) : w_m_Len64 p0 K = K r0 :=
 propext ⟨fun k => detC (ok_m_Len64 [] effG_nil) (az := [(.int .u64 p0)]) (x := (.int .i64 r0)) (fun K' k' => h (fun r0 => K' (.int .i64 r0)) k') (K := fun x => match x with | (.int .i64 r0) => K r0 | _ => False) k, h K⟩
theorem det_ratio_Add (p0 : Int) (p1 : Int) (p2 : Int) (p3 : Int) (r0 : Int) (r1 : Int) (r2 : Int) (h : ∀ K : Int → Int → Int → Prop, K r0 r1 r2 → w_ratio_Add p0 p1 p2 p3 K) (K : Int → Int → Int → Prop) : w_ratio_Add p0 p1 p2 p3 K = K r0 r1 r2 :=
 propext ⟨fun k => detC (ok_ratio_Add [] effG_nil) (az := [(.agg [(.int .i64 p0), (.int .i64 p1)]), (.agg [(.int .i64 p2), (.int .i64 p3)])]) (x := (.tup [(.agg [(.int .i64 r0), (.int .i64 r1)]), (.int .i64 r2)])) (fun K' k' => h (fun r0 r1 r2 => K' (.tup [(.agg [(.int .i64 r0), (.int .i64 r1)]), (.int .i64 r2)])) k') (K := fun x => match x with | (.tup [(.agg [(.int .i64 r0), (.int .i64 r1)]), (.int .i64 r2)]) => K r0 r1 r2 | _ => False) k, h K⟩
theorem det_ratio_Sub (p0 : Int) (p1 : Int) (p2 : Int) (p3 : Int) (r0 : Int) (r1 : Int) (r2 : Int) (h : ∀ K : Int → Int → Int → Prop, K r0 r1 r2 → w_ratio_Sub p0 p1 p2 p3 K) (K : Int → Int → Int → Prop) : w_ratio_Sub p0 p1 p2 p3 K = K r0 r1 r2 :=
 propext ⟨fun k => detC (ok_ratio_Sub [] effG_nil) (az := [(.agg [(.int .i64 p0), (.int .i64 p1)]), (.agg [(.int .i64 p2), (.int .i64 p3)])]) (x := (.tup [(.agg [(.int .i64 r0), (.int .i64 r1)]), (.int .i64 r2)])) (fun K' k' => h (fun r0 r1 r2 => K' (.tup [(.agg [(.int .i64 r0), (.int .i64 r1)]), (.int .i64 r2)])) k') (K := fun x => match x with | (.tup [(.agg [(.int .i64 r0), (.int .i64 r1)]), (.int .i64 r2)]) => K r0 r1 r2 | _ => False) k, h K⟩
theorem det_ratio_Mul (p0 : Int) (p1 : Int) (p2 : Int) (p3 : Int) (r0 : Int) (r1 : Int) (r2 : Int) (h : ∀ K : Int → Int → Int → Prop, K r0 r1 r2 → w_ratio_Mul p0 p1 p2 p3 K) (K : Int → Int → Int → Prop) : w_ratio_Mul p0 p1 p2 p3 K = K r0 r1 r2 :=
 propext ⟨fun k => detC (ok_ratio_Mul [] effG_nil) (az := [(.agg [(.int .i64 p0), (.int .i64 p1)]), (.agg [(.int .i64 p2), (.int .i64 p3)])]) (x := (.tup [(.agg [(.int .i64 r0), (.int .i64 r1)]), (.int .i64 r2)])) (fun K' k' => h (fun r0 r1 r2 => K' (.tup [(.agg [(.int .i64 r0), (.int .i64 r1)]), (.int .i64 r2)])) k') (K := fun x => match x with | (.tup [(.agg [(.int .i64 r0), (.int .i64 r1)]), (.int .i64 r2)]) => K r0 r1 r2 | _ => False) k, h K⟩
theorem det_ratio_Div (p0 : Int) (p1 : Int) (p2 : Int) (p3 : Int) (r0 : Int) (r1 : Int) (r2 : Int) (h : ∀ K : Int → Int → Int → Prop, K r0 r1 r2 → w_ratio_Div p0 p1 p2 p3 K) (K : Int → Int → Int → Prop) : w_ratio_Div p0 p1 p2 p3 K = K r0 r1 r2 :=
 propext ⟨fun k => detC (ok_ratio_Div [] effG_nil) (az := [(.agg [(.int .i64 p0), (.int .i64 p1)]), (.agg [(.int .i64 p2), (.int .i64 p3)])]) (x := (.tup [(.agg [(.int .i64 r0), (.int .i64 r1)]), (.int .i64 r2)])) (fun K' k' => h (fun r0 r1 r2 => K' (.tup [(.agg [(.int .i64 r0), (.int .i64 r1)]), (.int .i64 r2)])) k') (K := fun x => match x with | (.tup [(.agg [(.int .i64 r0), (.int .i64 r1)]), (.int .i64 r2)]) => K r0 r1 r2 | _ => False) k, h K⟩
end Go.Pf.Vc
namespace Go.Pf.Vc
open Go Go.Pf
set_option maxRecDepth 100000
def L_s_Min_int_int_0_0 (x0 : Ls → Int → Int → Bool → Prop) : Nat → Ls → Int → Int → Prop
 | 0, _, _, _ => False
 | n + 1, l0, i1, i2 =>
 (cbr (decide (i2 < (((List.length l0) : Nat) : Int)))
 (asr (decide ((0 : Int) ≤ i2))
 (asr (decide (i2 < (((List.length l0) : Nat) : Int)))
 (asr (conf zI (List.getD l0 (i2.toNat) .nils))
 (L_s_Min_int_int_0_0 x0 n l0 (if (intOfV (List.getD l0 (i2.toNat) .nils)) < i1 then (intOfV (List.getD l0 (i2.toNat) .nils)) else i1) (IntKind.i64.wrap (i2 + (1 : Int)))))))
 (x0 l0 i1 i2 false))
def wv_s_Min_int_int (p0 : Ls) (K : Int → Prop) : Prop :=
 (cbr (decide ((((List.length p0) : Nat) : Int) < (1 : Int)))
 False
 (asr (decide ((0 : Int) < (((List.length p0) : Nat) : Int)))
 (asr (conf zI (List.getD p0 0 .nils))
 (∃ n : Nat, L_s_Min_int_int_0_0
 (fun _ yi1 _ _ => (K yi1))
 n p0 (intOfV (List.getD p0 0 .nils)) (1 : Int)))))
def w_s_Min_int_int : T_cmp_Or_api_Errno := wv_s_Min_int_int
def X_s_Min_int_int_0_0 (Q : Qx) : Ls → Int → Int → Bool → Prop := (fun l0 i1 i2 b3 => Q (.exit 0) [(0, .v (.data l0)), (3, .v (.int .i64 i1)), (4, .v (.int .i64 i2)), (15, .v (.bool b3))] [])
def pt10 : Pat Frm := fV 4 pt0 fN
def pt11 : Pat Sta := pS hN (fV 0 vD (fV 3 pt0 pt10)) fN
def St_s_Min_int_int_0 (Q : Qx) : List St := [⟨pt11, L_s_Min_int_int_0_0 (X_s_Min_int_int_0_0 Q)⟩]
def lp_s_Min_int_int : LP := lpS [(10434000, St_s_Min_int_int_0)]
def S0_s_Min_int_int (e : Es) : SE := sE (E e) [] (lp_s_Min_int_int)
theorem se0_s_Min_int_int (e : Es) (he : EG e) : SEOk (Uni (E e)) (S0_s_Min_int_int e) := seOk_of (Sub.uni _) trivial trivial he.ok
theorem body_s_Min_int_int_0 (e : Es) : BodOk (S0_s_Min_int_int e) 5 yk0 b_10434000 false (St_s_Min_int_int_0) := fun _ => ⟨fun _ => by kernel_rfl, fun _ _ => by kernel_rfl, trivial⟩
theorem loop_s_Min_int_int_0 (e : Es) (he : EG e) : LpT (Uni (E e)) (lp_s_Min_int_int) [] 10434000 (.loop 10434000 b_10434000) := fun _ _ _ => LoopT.st (Sub.uni _) (callW_ok (se0_s_Min_int_int e he) 5) (YOk.no _ _) (LpOk_no (by kernel_rfl)) (body_s_Min_int_int_0 e _)
theorem eq_s_Min_int_int (e : Es) : EqW (S0_s_Min_int_int e) 6 t_s_Min_int_int sg_cmp_Or_api_Errno wv_s_Min_int_int := fun _ _ => by kernel_rfl
theorem ok_s_Min_int_int (e : Es) (he : EG e) : OkF (E e) (sg_cmp_Or_api_Errno.pw w_s_Min_int_int) n_s_Min_int_int := okU he (eq_s_Min_int_int e) (se0_s_Min_int_int e he) RngOk.flat (LpOk_by (l := [(10434000, .loop 10434000 b_10434000)]) ⟨loop_s_Min_int_int_0 e he, trivial⟩ (by kernel_rfl))
def L_s_Max_int_int_0_0 (x0 : Ls → Int → Int → Bool → Prop) : Nat → Ls → Int → Int → Prop
 | 0, _, _, _ => False
 | n + 1, l0, i1, i2 =>
 (cbr (decide (i2 < (((List.length l0) : Nat) : Int)))
 (asr (decide ((0 : Int) ≤ i2))
 (asr (decide (i2 < (((List.length l0) : Nat) : Int)))
 (asr (conf zI (List.getD l0 (i2.toNat) .nils))
 (L_s_Max_int_int_0_0 x0 n l0 (if (intOfV (List.getD l0 (i2.toNat) .nils)) > i1 then (intOfV (List.getD l0 (i2.toNat) .nils)) else i1) (IntKind.i64.wrap (i2 + (1 : Int)))))))
 (x0 l0 i1 i2 false))
def wv_s_Max_int_int (p0 : Ls) (K : Int → Prop) : Prop :=
 (cbr (decide ((((List.length p0) : Nat) : Int) < (1 : Int)))
 False
 (asr (decide ((0 : Int) < (((List.length p0) : Nat) : Int)))
 (asr (conf zI (List.getD p0 0 .nils))
 (∃ n : Nat, L_s_Max_int_int_0_0
 (fun _ yi1 _ _ => (K yi1))
 n p0 (intOfV (List.getD p0 0 .nils)) (1 : Int)))))
def w_s_Max_int_int : T_cmp_Or_api_Errno := wv_s_Max_int_int
def X_s_Max_int_int_0_0 (Q : Qx) : Ls → Int → Int → Bool → Prop := (fun l0 i1 i2 b3 => Q (.exit 0) [(0, .v (.data l0)), (3, .v (.int .i64 i1)), (4, .v (.int .i64 i2)), (15, .v (.bool b3))] [])
def St_s_Max_int_int_0 (Q : Qx) : List St := [⟨pt11, L_s_Max_int_int_0_0 (X_s_Max_int_int_0_0 Q)⟩]
def lp_s_Max_int_int : LP := lpS [(64079100, St_s_Max_int_int_0)]
def S0_s_Max_int_int (e : Es) : SE := sE (E e) [] (lp_s_Max_int_int)
theorem se0_s_Max_int_int (e : Es) (he : EG e) : SEOk (Uni (E e)) (S0_s_Max_int_int e) := seOk_of (Sub.uni _) trivial trivial he.ok
theorem body_s_Max_int_int_0 (e : Es) : BodOk (S0_s_Max_int_int e) 5 yk0 b_64079100 false (St_s_Max_int_int_0) := fun _ => ⟨fun _ => by kernel_rfl, fun _ _ => by kernel_rfl, trivial⟩
theorem loop_s_Max_int_int_0 (e : Es) (he : EG e) : LpT (Uni (E e)) (lp_s_Max_int_int) [] 64079100 (.loop 64079100 b_64079100) := fun _ _ _ => LoopT.st (Sub.uni _) (callW_ok (se0_s_Max_int_int e he) 5) (YOk.no _ _) (LpOk_no (by kernel_rfl)) (body_s_Max_int_int_0 e _)
theorem eq_s_Max_int_int (e : Es) : EqW (S0_s_Max_int_int e) 6 t_s_Max_int_int sg_cmp_Or_api_Errno wv_s_Max_int_int := fun _ _ => by kernel_rfl
theorem ok_s_Max_int_int (e : Es) (he : EG e) : OkF (E e) (sg_cmp_Or_api_Errno.pw w_s_Max_int_int) n_s_Max_int_int := okU he (eq_s_Max_int_int e) (se0_s_Max_int_int e he) RngOk.flat (LpOk_by (l := [(64079100, .loop 64079100 b_64079100)]) ⟨loop_s_Max_int_int_0 e he, trivial⟩ (by kernel_rfl))
abbrev T_cake_Check : Type := Int → Ls → Ls → (Int → Prop) → Prop
def L_cake_Check_0_0 (a0 : T_cmp_Or_api_Errno) (a1 : T_cmp_Or_api_Errno) (x0 : Int → Prop) (x1 : Int → Ls → Ls → Int → Int → Bool → Prop) : Nat → Int → Ls → Ls → Int → Int → Prop
 | 0, _, _, _, _, _ => False
 | n + 1, i0, l1, l2, i3, i4 =>
 (cbr (decide (i4 < i3))
 (asr (decide ((0 : Int) ≤ i4))
 (asr (decide (i4 < (((List.length l1) : Nat) : Int)))
 (asr (conf zI (List.getD l1 (i4.toNat) .nils))
 (asr (decide ((0 : Int) ≤ (IntKind.i64.wrap (i4 + (1 : Int)))))
 (asr (decide ((IntKind.i64.wrap (i4 + (1 : Int))) < (((List.length l1) : Nat) : Int)))
 (asr (conf zI (List.getD l1 ((IntKind.i64.wrap (i4 + (1 : Int))).toNat) .nils))
 (cbr (decide ((intOfV (List.getD l1 (i4.toNat) .nils)) ≥ (intOfV (List.getD l1 ((IntKind.i64.wrap (i4 + (1 : Int))).toNat) .nils))))
 (x0 (8 : Int))
 (L_cake_Check_0_0 a0 a1 x0 x1 n i0 l1 l2 i3 (IntKind.i64.wrap (i4 + (1 : Int)))))))))))
 (x1 i0 l1 l2 i3 i4 false))
def wv_cake_Check (a0 : T_cmp_Or_api_Errno) (a1 : T_cmp_Or_api_Errno) (p0 : Int) (p1 p2 : Ls) (K : Int → Prop) : Prop :=
 (cbr (decide (p0 > (1000 : Int)))
 (K (4 : Int))
 (cbr (decide ((((List.length p1) : Nat) : Int) > (40 : Int)))
 (K (4 : Int))
 (cbr (decide (p0 < (1 : Int)))
 (K (8 : Int))
 (cbr (decide ((((List.length p1) : Nat) : Int) < (2 : Int)))
 (K (8 : Int))
 (cbr ((((List.length p2) : Nat) : Int) != (IntKind.i64.wrap ((((List.length p1) : Nat) : Int) - (1 : Int))))
 (K (8 : Int))
 (asr (decide ((0 : Int) < (((List.length p1) : Nat) : Int)))
 (asr (conf zI (List.getD p1 0 .nils))
 (cbr ((intOfV (List.getD p1 0 .nils)) != (0 : Int))
 (K (8 : Int))
 (asr (decide ((0 : Int) ≤ (IntKind.i64.wrap ((((List.length p1) : Nat) : Int) - (1 : Int)))))
 (asr (decide ((IntKind.i64.wrap ((((List.length p1) : Nat) : Int) - (1 : Int))) < (((List.length p1) : Nat) : Int)))
 (asr (conf zI (List.getD p1 ((IntKind.i64.wrap ((((List.length p1) : Nat) : Int) - (1 : Int))).toNat) .nils))
 (cbr ((intOfV (List.getD p1 ((IntKind.i64.wrap ((((List.length p1) : Nat) : Int) - (1 : Int))).toNat) .nils)) != p0)
 (K (8 : Int))
 (∃ n : Nat, L_cake_Check_0_0 a0 a1
 (fun yi0 => (K yi0))
 (fun _ _ yl3 _ _ _ => (a0 yl3 (fun yi7 => 
 (cbr (decide (yi7 < (0 : Int)))
 (K (8 : Int))
 (a1 yl3 (fun yi8 => 
 (cbr (decide (yi8 > (12 : Int)))
 (K (8 : Int))
 (a1 yl3 (fun yi9 => 
 (cbr (yi9 == (0 : Int))
 (K (8 : Int))
 (K (0 : Int))))))))))))
 n p0 p1 p2 (IntKind.i64.wrap ((((List.length p1) : Nat) : Int) - (1 : Int))) (0 : Int))))))))))))))
def w_cake_Check : T_cake_Check := wv_cake_Check w_s_Min_int_int w_s_Max_int_int
def pt12 : LPt := lC vD pt7
def pt13 : VPt := vA (lC pt0 pt12)
def pt14 : LPt := lC pt13 lN
def sg_cake_Check : Sg := ⟨pt14, Int → Prop, fun K => (fun r0 => K (.int .i64 r0))⟩
def X_cake_Check_0_0 (Q : Qx) : Int → Prop := (fun i0 => Q .ret [(2, .v (.int .i64 i0))] [])
def X_cake_Check_0_1 (Q : Qx) : Int → Ls → Ls → Int → Int → Bool → Prop := (fun i0 l1 l2 i3 i4 b5 => Q (.exit 0) [(1, .box (.agg [(.int .i64 i0), (.data l1), (.data l2)])), (49, .v (.int .i64 i3)), (50, .v (.int .i64 i4)), (51, .v (.bool b5))] [])
def St_cake_Check_0 (a0 : T_cmp_Or_api_Errno) (a1 : T_cmp_Or_api_Errno) (Q : Qx) : List St := [⟨(pS hN (fX 1 pt13 (fV 49 pt0 (fV 50 pt0 fN))) fN), L_cake_Check_0_0 a0 a1 (X_cake_Check_0_0 Q) (X_cake_Check_0_1 Q)⟩]
def lp_cake_Check (a0 : T_cmp_Or_api_Errno) (a1 : T_cmp_Or_api_Errno) : LP := lpS [(87419700, St_cake_Check_0 a0 a1)]
def S0_cake_Check (e : Es) (a0 : T_cmp_Or_api_Errno) (a1 : T_cmp_Or_api_Errno) : SE := sE (E e) [(n_s_Min_int_int, sg_cmp_Or_api_Errno.pw a0), (n_s_Max_int_int, sg_cmp_Or_api_Errno.pw a1)] (lp_cake_Check a0 a1)
theorem se0_cake_Check (e : Es) (he : EG e) : SEOk (Uni (E e)) (S0_cake_Check e w_s_Min_int_int w_s_Max_int_int) := seOk_of (Sub.uni _) ⟨(ok_s_Min_int_int e he), (ok_s_Max_int_int e he), trivial⟩ trivial he.ok
theorem body_cake_Check_0 (e : Es) (a0 a1) : BodOk (S0_cake_Check e a0 a1) 5 yk0 b_87419700 false (St_cake_Check_0 a0 a1) := fun _ => ⟨fun _ => by kernel_rfl, fun _ _ => by kernel_rfl, trivial⟩
theorem loop_cake_Check_0 (e : Es) (he : EG e) : LpT (Uni (E e)) (lp_cake_Check w_s_Min_int_int w_s_Max_int_int) [] 87419700 (.loop 87419700 b_87419700) := fun _ _ _ => LoopT.st (Sub.uni _) (callW_ok (se0_cake_Check e he) 5) (YOk.no _ _) (LpOk_no (by kernel_rfl)) (body_cake_Check_0 e _ _ _)
theorem eq_cake_Check (e : Es) (a0 a1) : EqW (S0_cake_Check e a0 a1) 6 t_cake_Check sg_cake_Check (wv_cake_Check a0 a1) := fun _ _ => by kernel_rfl
theorem ok_cake_Check (e : Es) (he : EG e) : OkF (E e) (sg_cake_Check.pw w_cake_Check) n_cake_Check := okU he (eq_cake_Check e _ _) (se0_cake_Check e he) RngOk.flat (LpOk_by (l := [(87419700, .loop 87419700 b_87419700)]) ⟨loop_cake_Check_0 e he, trivial⟩ (by kernel_rfl))
abbrev T_cake_Total : Type := Int → Ls → Ls → (Int → Int → Prop) → Prop
def L_cake_Total_0_0 (a0 : T_cake_Check) (x0 : Int → Ls → Ls → Int → Ls → Int → Int → Bool → Prop) : Nat → Int → Ls → Ls → Int → Ls → Int → Int → Prop
 | 0, _, _, _, _, _, _, _ => False
 | n + 1, i0, l1, l2, i3, l4, i5, i6 =>
 (cbr (decide (i6 < i5))
 (asr (decide ((0 : Int) ≤ i6))
 (asr (decide (i6 < (((List.length l4) : Nat) : Int)))
 (asr (conf zI (List.getD l4 (i6.toNat) .nils))
 (asr (decide ((0 : Int) ≤ (IntKind.i64.wrap (i6 + (1 : Int)))))
 (asr (decide ((IntKind.i64.wrap (i6 + (1 : Int))) < (((List.length l1) : Nat) : Int)))
 (asr (conf zI (List.getD l1 ((IntKind.i64.wrap (i6 + (1 : Int))).toNat) .nils))
 (asr (decide ((0 : Int) ≤ i6))
 (asr (decide (i6 < (((List.length l1) : Nat) : Int)))
 (asr (conf zI (List.getD l1 (i6.toNat) .nils))
 (L_cake_Total_0_0 a0 x0 n i0 l1 l2 (IntKind.i64.wrap (i3 + (IntKind.i64.wrap ((intOfV (List.getD l4 (i6.toNat) .nils)) * (IntKind.i64.wrap ((intOfV (List.getD l1 ((IntKind.i64.wrap (i6 + (1 : Int))).toNat) .nils)) - (intOfV (List.getD l1 (i6.toNat) .nils)))))))) l4 i5 (IntKind.i64.wrap (i6 + (1 : Int)))))))))))))
 (x0 i0 l1 l2 i3 l4 i5 i6 false))
def wv_cake_Total (a0 : T_cake_Check) (p0 : Int) (p1 p2 : Ls) (K : Int → Int → Prop) : Prop :=
 (a0 p0 p1 p2 (fun yi0 => 
 (cbr (yi0 != (0 : Int))
 (K (0 : Int) yi0)
 (∃ n : Nat, L_cake_Total_0_0 a0
 (fun _ _ _ yi4 _ _ _ _ => (K yi4 (0 : Int)))
 n p0 p1 p2 (0 : Int) p2 (((List.length p2) : Nat) : Int) (0 : Int)))))
def w_cake_Total : T_cake_Total := wv_cake_Total w_cake_Check
def sg_cake_Total : Sg := ⟨pt14, Int → Int → Prop, fun K => (fun r0 r1 => K (.tup [(.int .i64 r0), (.int .i64 r1)]))⟩
def X_cake_Total_0_0 (Q : Qx) : Int → Ls → Ls → Int → Ls → Int → Int → Bool → Prop := (fun i0 l1 l2 i3 l4 i5 i6 b7 => Q (.exit 0) [(1, .box (.agg [(.int .i64 i0), (.data l1), (.data l2)])), (5, .v (.int .i64 i3)), (14, .v (.data l4)), (15, .v (.int .i64 i5)), (16, .v (.int .i64 i6)), (17, .v (.bool b7))] [])
def pt15 : Pat Frm := fV 14 vD (fV 15 pt0 (fV 16 pt0 fN))
def St_cake_Total_0 (a0 : T_cake_Check) (Q : Qx) : List St := [⟨(pS hN (fX 1 pt13 (fV 5 pt0 pt15)) fN), L_cake_Total_0_0 a0 (X_cake_Total_0_0 Q)⟩]
def lp_cake_Total (a0 : T_cake_Check) : LP := lpS [(45203600, St_cake_Total_0 a0)]
def S0_cake_Total (e : Es) (a0 : T_cake_Check) : SE := sE (E e) [(n_cake_Check, sg_cake_Check.pw a0)] (lp_cake_Total a0)
theorem se0_cake_Total (e : Es) (he : EG e) : SEOk (Uni (E e)) (S0_cake_Total e w_cake_Check) := seOk_of (Sub.uni _) ⟨(ok_cake_Check e he), trivial⟩ trivial he.ok
theorem body_cake_Total_0 (e : Es) (a0) : BodOk (S0_cake_Total e a0) 5 yk0 b_45203600 false (St_cake_Total_0 a0) := fun _ => ⟨fun _ => by kernel_rfl, fun _ _ => by kernel_rfl, trivial⟩
theorem loop_cake_Total_0 (e : Es) (he : EG e) : LpT (Uni (E e)) (lp_cake_Total w_cake_Check) [] 45203600 (.loop 45203600 b_45203600) := fun _ _ _ => LoopT.st (Sub.uni _) (callW_ok (se0_cake_Total e he) 5) (YOk.no _ _) (LpOk_no (by kernel_rfl)) (body_cake_Total_0 e _ _)
theorem eq_cake_Total (e : Es) (a0) : EqW (S0_cake_Total e a0) 6 t_cake_Total sg_cake_Total (wv_cake_Total a0) := fun _ _ => by kernel_rfl
theorem ok_cake_Total (e : Es) (he : EG e) : OkF (E e) (sg_cake_Total.pw w_cake_Total) n_cake_Total := okU he (eq_cake_Total e _) (se0_cake_Total e he) RngOk.flat (LpOk_by (l := [(45203600, .loop 45203600 b_45203600)]) ⟨loop_cake_Total_0 e he, trivial⟩ (by kernel_rfl))
abbrev T_cake_whole : Type := Int → (Int → Int → Prop) → Prop
def wv_cake_whole (p0 : Int) (K : Int → Int → Prop) : Prop :=
 (K p0 (1 : Int))
def w_cake_whole : T_cake_whole := wv_cake_whole
def sg_cake_whole : Sg := ⟨pt1, Int → Int → Prop, fun K => (fun r0 r1 => K (.agg [(.int .i64 r0), (.int .i64 r1)]))⟩
def S0_cake_whole (e : Es) : SE := sE (E e) [] lp0
theorem eq_cake_whole (e : Es) : EqW (S0_cake_whole e) 6 t_cake_whole sg_cake_whole wv_cake_whole := fun _ _ => by kernel_rfl
theorem ok_cake_whole (e : Es) (he : EG e) : OkF (E e) (sg_cake_whole.pw w_cake_whole) n_cake_whole := okU he (eq_cake_whole e) (seOk_of (Sub.uni _) trivial trivial he.ok) RngOk.flat (LpOk_no (by kernel_rfl))
abbrev T_cake_less : Type := Int → Int → Int → Int → (Bool → Prop) → Prop
def wv_cake_less (a0 : T_ratio_Cmp) (p0 p1 p2 p3 : Int) (K : Bool → Prop) : Prop :=
 (a0 p0 p1 p2 p3 (fun yi0 _ => 
 (K (decide (yi0 < (0 : Int))))))
def w_cake_less : T_cake_less := wv_cake_less w_ratio_Cmp
def sg_cake_less : Sg := ⟨pt9, Bool → Prop, fun K => (fun r0 => K (.bool r0))⟩
def S0_cake_less (e : Es) (a0 : T_ratio_Cmp) : SE := sE (E e) [(n_ratio_Cmp, sg_ratio_Cmp.pw a0)] lp0
theorem eq_cake_less (e : Es) (a0) : EqW (S0_cake_less e a0) 6 t_cake_less sg_cake_less (wv_cake_less a0) := fun _ _ => by kernel_rfl
theorem ok_cake_less (e : Es) (he : EG e) : OkF (E e) (sg_cake_less.pw w_cake_less) n_cake_less := okU he (eq_cake_less e _) (seOk_of (Sub.uni _) ⟨(ok_ratio_Cmp e he), trivial⟩ trivial he.ok) RngOk.flat (LpOk_no (by kernel_rfl))
abbrev T_cake_point : Type := Int → Ls → Ls → Int → Int → (Bool → Prop) → Prop
def wv_cake_point (a0 : T_ratio_gcd) (a1 : T_cake_whole) (a2 : T_cake_less) (p0 : Int) (_ _ : Ls) (p3 p4 : Int) (K : Bool → Prop) : Prop :=
 (a0 p3 p4 (fun yi0 => 
 (cbr (yi0 == (0 : Int))
 (cbr (decide (p3 ≥ (0 : Int)))
 (a1 p0 (fun yi1 yi2 => 
 (a2 yi1 yi2 p3 p4 (fun yb3 => 
 (K (!yb3))))))
 (K false))
 (K false))))
def w_cake_point : T_cake_point := wv_cake_point w_ratio_Check w_cake_whole w_cake_less
def sg_cake_point : Sg := ⟨(lC pt13 (lC pt6 lN)), Bool → Prop, fun K => (fun r0 => K (.bool r0))⟩
def S0_cake_point (e : Es) (a0 : T_ratio_gcd) (a1 : T_cake_whole) (a2 : T_cake_less) : SE := sE (E e) [(n_ratio_Check, sg_ratio_Check.pw a0), (n_cake_whole, sg_cake_whole.pw a1), (n_cake_less, sg_cake_less.pw a2)] lp0
theorem eq_cake_point (e : Es) (a0 a1 a2) : EqW (S0_cake_point e a0 a1 a2) 6 t_cake_point sg_cake_point (wv_cake_point a0 a1 a2) := fun _ _ => by kernel_rfl
theorem ok_cake_point (e : Es) (he : EG e) : OkF (E e) (sg_cake_point.pw w_cake_point) n_cake_point := okU he (eq_cake_point e _ _ _) (seOk_of (Sub.uni _) ⟨(ok_ratio_Check e he), (ok_cake_whole e he), (ok_cake_less e he), trivial⟩ trivial he.ok) RngOk.flat (LpOk_no (by kernel_rfl))
abbrev T_cake_Value : Type := Int → Ls → Ls → Int → Int → Int → Int → (Int → Int → Int → Prop) → Prop
def L_cake_Value_0_0 (a0 : T_cake_Check) (a1 : T_cake_point) (a2 : T_cake_less) (a3 : T_cake_whole) (a4 : T_ratio_Add) (a5 : T_ratio_Add) (a6 : T_ratio_Add) (x0 : Int → Int → Int → Prop) (x1 : Int → Ls → Ls → Int → Int → Int → Int → Int → Int → Int → Int → Ls → Int → Int → Bool → Prop) : Nat → Int → Ls → Ls → Int → Int → Int → Int → Int → Int → Int → Int → Ls → Int → Int → Prop
 | 0, _, _, _, _, _, _, _, _, _, _, _, _, _, _ => False
 | n + 1, i0, l1, l2, i3, i4, i5, i6, i7, i8, i9, i10, l11, i12, i13 =>
 (cbr (decide (i13 < i12))
 (asr (decide ((0 : Int) ≤ i13))
 (asr (decide (i13 < (((List.length l11) : Nat) : Int)))
 (asr (conf zI (List.getD l11 (i13.toNat) .nils))
 (asr (decide ((0 : Int) ≤ (IntKind.i64.wrap (i13 + (1 : Int)))))
 (asr (decide ((IntKind.i64.wrap (i13 + (1 : Int))) < (((List.length l1) : Nat) : Int)))
 (asr (conf zI (List.getD l1 ((IntKind.i64.wrap (i13 + (1 : Int))).toNat) .nils))
 (a3 (intOfV (List.getD l1 ((IntKind.i64.wrap (i13 + (1 : Int))).toNat) .nils)) (fun yi6 yi7 => 
 (a2 i3 i4 yi6 yi7 (fun yb8 => 
 (cbr yb8
 (cbr ((intOfV (List.getD l11 (i13.toNat) .nils)) == (0 : Int))
 (a2 i9 i10 i3 i4 (fun yb9 => 
 (cbr yb9
 (L_cake_Value_0_0 a0 a1 a2 a3 a4 a5 a6 x0 x1 n i0 l1 l2 i3 i4 i5 i6 i7 i8 i3 i4 l11 i12 (IntKind.i64.wrap (i13 + (1 : Int))))
 (L_cake_Value_0_0 a0 a1 a2 a3 a4 a5 a6 x0 x1 n i0 l1 l2 i3 i4 i5 i6 i7 i8 i9 i10 l11 i12 (IntKind.i64.wrap (i13 + (1 : Int)))))))
 (a2 i9 i10 i3 i4 (fun yb10 => 
 (cbr (!yb10)
 (a2 i9 i10 i3 i4 (fun yb11 => 
 (cbr yb11
 (L_cake_Value_0_0 a0 a1 a2 a3 a4 a5 a6 x0 x1 n i0 l1 l2 i3 i4 i5 i6 i7 i8 i3 i4 l11 i12 (IntKind.i64.wrap (i13 + (1 : Int))))
 (L_cake_Value_0_0 a0 a1 a2 a3 a4 a5 a6 x0 x1 n i0 l1 l2 i3 i4 i5 i6 i7 i8 i9 i10 l11 i12 (IntKind.i64.wrap (i13 + (1 : Int)))))))
 (a4 i3 i4 i9 i10 (fun yi12 yi13 yi14 => 
 (cbr (yi14 != (0 : Int))
 (x0 (0 : Int) (0 : Int) yi14)
 (a3 (intOfV (List.getD l11 (i13.toNat) .nils)) (fun yi15 yi16 => 
 (a5 yi12 yi13 yi15 yi16 (fun yi17 yi18 yi19 => 
 (cbr (yi19 != (0 : Int))
 (x0 (0 : Int) (0 : Int) yi19)
 (a6 i7 i8 yi17 yi18 (fun yi20 yi21 yi22 => 
 (cbr (yi22 != (0 : Int))
 (x0 (0 : Int) (0 : Int) yi22)
 (L_cake_Value_0_0 a0 a1 a2 a3 a4 a5 a6 x0 x1 n i0 l1 l2 i3 i4 i5 i6 yi20 yi21 i3 i4 l11 i12 (IntKind.i64.wrap (i13 + (1 : Int)))))))))))))))))))
 (cbr ((intOfV (List.getD l11 (i13.toNat) .nils)) == (0 : Int))
 (a2 i9 i10 yi6 yi7 (fun yb23 => 
 (cbr yb23
 (L_cake_Value_0_0 a0 a1 a2 a3 a4 a5 a6 x0 x1 n i0 l1 l2 i3 i4 i5 i6 i7 i8 yi6 yi7 l11 i12 (IntKind.i64.wrap (i13 + (1 : Int))))
 (L_cake_Value_0_0 a0 a1 a2 a3 a4 a5 a6 x0 x1 n i0 l1 l2 i3 i4 i5 i6 i7 i8 i9 i10 l11 i12 (IntKind.i64.wrap (i13 + (1 : Int)))))))
 (a2 i9 i10 yi6 yi7 (fun yb24 => 
 (cbr (!yb24)
 (a2 i9 i10 yi6 yi7 (fun yb25 => 
 (cbr yb25
 (L_cake_Value_0_0 a0 a1 a2 a3 a4 a5 a6 x0 x1 n i0 l1 l2 i3 i4 i5 i6 i7 i8 yi6 yi7 l11 i12 (IntKind.i64.wrap (i13 + (1 : Int))))
 (L_cake_Value_0_0 a0 a1 a2 a3 a4 a5 a6 x0 x1 n i0 l1 l2 i3 i4 i5 i6 i7 i8 i9 i10 l11 i12 (IntKind.i64.wrap (i13 + (1 : Int)))))))
 (a4 yi6 yi7 i9 i10 (fun yi26 yi27 yi28 => 
 (cbr (yi28 != (0 : Int))
 (x0 (0 : Int) (0 : Int) yi28)
 (a3 (intOfV (List.getD l11 (i13.toNat) .nils)) (fun yi29 yi30 => 
 (a5 yi26 yi27 yi29 yi30 (fun yi31 yi32 yi33 => 
 (cbr (yi33 != (0 : Int))
 (x0 (0 : Int) (0 : Int) yi33)
 (a6 i7 i8 yi31 yi32 (fun yi34 yi35 yi36 => 
 (cbr (yi36 != (0 : Int))
 (x0 (0 : Int) (0 : Int) yi36)
 (L_cake_Value_0_0 a0 a1 a2 a3 a4 a5 a6 x0 x1 n i0 l1 l2 i3 i4 i5 i6 yi34 yi35 yi6 yi7 l11 i12 (IntKind.i64.wrap (i13 + (1 : Int))))))))))))))))))))))))))))))
 (x1 i0 l1 l2 i3 i4 i5 i6 i7 i8 i9 i10 l11 i12 i13 false))
def wv_cake_Value (a0 : T_cake_Check) (a1 : T_cake_point) (a2 : T_cake_less) (a3 : T_cake_whole) (a4 : T_ratio_Add) (a5 : T_ratio_Add) (a6 : T_ratio_Add) (p0 : Int) (p1 p2 : Ls) (p3 p4 p5 p6 : Int) (K : Int → Int → Int → Prop) : Prop :=
 (a0 p0 p1 p2 (fun yi0 => 
 (cbr (yi0 != (0 : Int))
 (K (0 : Int) (0 : Int) yi0)
 (a1 p0 p1 p2 p3 p4 (fun yb1 => 
 (cbr (!yb1)
 (K (0 : Int) (0 : Int) (2 : Int))
 (a1 p0 p1 p2 p5 p6 (fun yb2 => 
 (cbr (!yb2)
 (K (0 : Int) (0 : Int) (2 : Int))
 (a2 p5 p6 p3 p4 (fun yb3 => 
 (cbr yb3
 (K (0 : Int) (0 : Int) (2 : Int))
 (a3 (0 : Int) (fun yi4 yi5 => 
 (∃ n : Nat, L_cake_Value_0_0 a0 a1 a2 a3 a4 a5 a6
 (fun yi37 yi38 yi39 => (K yi37 yi38 yi39))
 (fun _ _ _ _ _ _ _ yi47 yi48 _ _ _ _ _ _ => (K yi47 yi48 (0 : Int)))
 n p0 p1 p2 p5 p6 (0 : Int) (0 : Int) yi4 yi5 p3 p4 p2 (((List.length p2) : Nat) : Int) (0 : Int))))))))))))))))
def w_cake_Value : T_cake_Value := wv_cake_Value w_cake_Check w_cake_point w_cake_less w_cake_whole w_ratio_Sub w_ratio_Mul w_ratio_Add
def sg_cake_Value : Sg := ⟨(lC pt13 pt9), Int → Int → Int → Prop, fun K => (fun r0 r1 r2 => K (.tup [(.agg [(.int .i64 r0), (.int .i64 r1)]), (.int .i64 r2)]))⟩
def X_cake_Value_0_0 (Q : Qx) : Int → Int → Int → Prop := (fun i0 i1 i2 => Q .ret [(6, .box (.agg [(.int .i64 i0), (.int .i64 i1)])), (7, .v (.int .i64 i2))] [])
def X_cake_Value_0_1 (Q : Qx) : Int → Ls → Ls → Int → Int → Int → Int → Int → Int → Int → Int → Ls → Int → Int → Bool → Prop := (fun i0 l1 l2 i3 i4 i5 i6 i7 i8 i9 i10 l11 i12 i13 b14 => Q (.exit 0) [(3, .box (.agg [(.int .i64 i0), (.data l1), (.data l2)])), (5, .box (.agg [(.int .i64 i3), (.int .i64 i4)])), (6, .box (.agg [(.int .i64 i5), (.int .i64 i6)])), (9, .box (.agg [(.int .i64 i7), (.int .i64 i8)])), (10, .box (.agg [(.int .i64 i9), (.int .i64 i10)])), (42, .v (.data l11)), (43, .v (.int .i64 i12)), (44, .v (.int .i64 i13)), (45, .v (.bool b14))] [])
def St_cake_Value_0 (a0 : T_cake_Check) (a1 : T_cake_point) (a2 : T_cake_less) (a3 : T_cake_whole) (a4 : T_ratio_Add) (a5 : T_ratio_Add) (a6 : T_ratio_Add) (Q : Qx) : List St := [⟨(pS hN (fX 3 pt13 (fX 5 pt6 (fX 6 pt6 (fX 9 pt6 (fX 10 pt6 (fV 42 vD (fV 43 pt0 (fV 44 pt0 fN)))))))) fN), L_cake_Value_0_0 a0 a1 a2 a3 a4 a5 a6 (X_cake_Value_0_0 Q) (X_cake_Value_0_1 Q)⟩]
def lp_cake_Value (a0 : T_cake_Check) (a1 : T_cake_point) (a2 : T_cake_less) (a3 : T_cake_whole) (a4 : T_ratio_Add) (a5 : T_ratio_Add) (a6 : T_ratio_Add) : LP := lpS [(85339800, St_cake_Value_0 a0 a1 a2 a3 a4 a5 a6)]
def S0_cake_Value (e : Es) (a0 : T_cake_Check) (a1 : T_cake_point) (a2 : T_cake_less) (a3 : T_cake_whole) (a4 : T_ratio_Add) (a5 : T_ratio_Add) (a6 : T_ratio_Add) : SE := sE (E e) [(n_cake_Check, sg_cake_Check.pw a0), (n_cake_point, sg_cake_point.pw a1), (n_cake_less, sg_cake_less.pw a2), (n_cake_whole, sg_cake_whole.pw a3), (n_ratio_Sub, sg_ratio_Add.pw a4), (n_ratio_Mul, sg_ratio_Add.pw a5), (n_ratio_Add, sg_ratio_Add.pw a6)] (lp_cake_Value a0 a1 a2 a3 a4 a5 a6)
theorem se0_cake_Value (e : Es) (he : EG e) : SEOk (Uni (E e)) (S0_cake_Value e w_cake_Check w_cake_point w_cake_less w_cake_whole w_ratio_Sub w_ratio_Mul w_ratio_Add) := seOk_of (Sub.uni _) ⟨(ok_cake_Check e he), (ok_cake_point e he), (ok_cake_less e he), (ok_cake_whole e he), (ok_ratio_Sub e he), (ok_ratio_Mul e he), (ok_ratio_Add e he), trivial⟩ trivial he.ok
theorem body_cake_Value_0 (e : Es) (a0 a1 a2 a3 a4 a5 a6) : BodOk (S0_cake_Value e a0 a1 a2 a3 a4 a5 a6) 5 yk0 b_85339800 false (St_cake_Value_0 a0 a1 a2 a3 a4 a5 a6) := fun _ => ⟨fun _ => by kernel_rfl, fun _ _ => by kernel_rfl, trivial⟩
theorem loop_cake_Value_0 (e : Es) (he : EG e) : LpT (Uni (E e)) (lp_cake_Value w_cake_Check w_cake_point w_cake_less w_cake_whole w_ratio_Sub w_ratio_Mul w_ratio_Add) [] 85339800 (.loop 85339800 b_85339800) := fun _ _ _ => LoopT.st (Sub.uni _) (callW_ok (se0_cake_Value e he) 5) (YOk.no _ _) (LpOk_no (by kernel_rfl)) (body_cake_Value_0 e _ _ _ _ _ _ _ _)
theorem eq_cake_Value (e : Es) (a0 a1 a2 a3 a4 a5 a6) : EqW (S0_cake_Value e a0 a1 a2 a3 a4 a5 a6) 6 t_cake_Value sg_cake_Value (wv_cake_Value a0 a1 a2 a3 a4 a5 a6) := fun _ _ => by kernel_rfl
theorem ok_cake_Value (e : Es) (he : EG e) : OkF (E e) (sg_cake_Value.pw w_cake_Value) n_cake_Value := okU he (eq_cake_Value e _ _ _ _ _ _ _) (se0_cake_Value e he) RngOk.flat (LpOk_by (l := [(85339800, .loop 85339800 b_85339800)]) ⟨loop_cake_Value_0 e he, trivial⟩ (by kernel_rfl))
end Go.Pf.Vc
