/- The framework, part 28: a reading of the small code as a condition on what comes behind it ('W'), over values that may bear unknown numbers, truths and lists. Nothing here speaks of a program. -/
import Derived.Test.YtfkfmlifhdcolaaDoorFw26
namespace Go.Pf
open Go

/-- A test in a condition. -/
def cbr (b : Bool) (x y : Prop) : Prop := match b with | true => x | false => y
/-- What must hold. -/
def asr (b : Bool) (x : Prop) : Prop := match b with | true => x | false => False

theorem cbr_iff {b : Bool} {x y : Prop} : cbr b x y ↔ (b = true → x) ∧ (b = false → y) := by cases b <;> simp [cbr]
theorem asr_iff {b : Bool} {x : Prop} : asr b x ↔ b = true ∧ x := by cases b <;> simp [asr]

/-! Rows of a known make. -/

inductive Cs where
  | i (k : IntKind)
  | b
  | d
  deriving DecidableEq, Inhabited
inductive Sh where
  | raw
  | one (c : Cs)
  | agg (l : List Cs)
  deriving Inhabited

def intOfV : PV → Int
  | .int _ n => n
  | _ => 0
def boolOfV : PV → Bool
  | .bool b => b
  | _ => false
def datOfV : PV → List PV
  | .data l => l
  | _ => []
def cellAt (r : PV) (j : Nat) : PV := r.cells.getD j .nils

def explC : Cs → PV → PV
  | .i k, x => .int k (intOfV x)
  | .b, x => .bool (boolOfV x)
  | .d, x => .data (datOfV x)
def explL : List Cs → PV → Nat → List PV
  | [], _, _ => []
  | c :: t, r, j => explC c (cellAt r j) :: explL t r (j + 1)
def expl : Sh → PV → PV
  | .raw, r => r
  | .one c, r => explC c r
  | .agg l, r => .agg (explL l r 0)

def confC : Cs → PV → Bool
  | .i k, .int l _ => decide (k = l)
  | .b, .bool _ => true
  | .d, .data _ => true
  | _, _ => false
def confL : List Cs → List PV → Bool
  | [], [] => true
  | c :: t, x :: r => confC c x && confL t r
  | _, _ => false
def conf : Sh → PV → Bool
  | .raw, _ => true
  | .one c, x => confC c x
  | .agg l, .agg cs => confL l cs
  | .agg _, _ => false

theorem confC_expl : ∀ (c : Cs) (x : PV), confC c x = true → explC c x = x
  | .i k, x, h => by cases x <;> simp [confC] at h; simp [explC, intOfV, h]
  | .b, x, h => by cases x <;> simp [confC] at h; simp [explC, boolOfV]
  | .d, x, h => by cases x <;> simp [confC] at h; simp [explC, datOfV]
theorem confL_expl : ∀ (l : List Cs) (pre cs : List PV), confL l cs = true → explL l (.agg (pre ++ cs)) pre.length = cs
  | [], pre, cs, h => by cases cs <;> simp [confL] at h; simp [explL]
  | c :: t, pre, cs, h => by
    cases cs with
    | nil => simp [confL] at h
    | cons x r =>
      simp only [confL, Bool.and_eq_true] at h
      have h1 : cellAt (.agg (pre ++ x :: r)) pre.length = x := by simp [cellAt, PV.cells]
      have h2 := confL_expl t (pre ++ [x]) r h.2
      simp only [List.append_assoc, List.singleton_append, List.length_append, List.length_singleton] at h2
      simp only [explL, h1, confC_expl c x h.1, h2]
theorem conf_expl : ∀ (s : Sh) (r : PV), conf s r = true → expl s r = r
  | .raw, _, _ => rfl
  | .one c, x, h => confC_expl c x h
  | .agg l, x, h => by
    cases x with
    | agg cs => have := confL_expl l [] cs h; simpa [expl] using this
    | _ => simp [conf] at h

/-! The code, with its loops named and its reads of unknown rows described. -/

structure An where
  at_ : Nat
  sh : Sh
  md : Nat
  deriving Inhabited

inductive TCode where
  | skip
  | ops (l : List AOper) (an : List An) (pairs : List (Nat × Nat)) (forget : List Nat)
  | seq (a b : TCode)
  | cond (c : Opd) (a b : TCode)
  | block (id : Nat) (b : TCode)
  | loop (id : Nat) (b : TCode)
  | exit (id : Nat)
  | ret
  | bad
  deriving Inhabited

def erase : TCode → ACode
  | .skip => .skip
  | .ops l _ ps fg => .ops l ps fg
  | .seq a b => .seq (erase a) (erase b)
  | .cond c a b => .cond c (erase a) (erase b)
  | .block id b => .block id (erase b)
  | .loop _ b => .loop (erase b)
  | .exit id => .exit id
  | .ret => .ret
  | .bad => .bad

structure TFn where
  nparams : Nat
  results : List ARes
  body : TCode
  deriving Inhabited
def TFn.fn (t : TFn) : AFn := ⟨t.nparams, t.results, erase t.body⟩

def anOf : List An → Nat → An
  | [], _ => ⟨0, .raw, 0⟩
  | a :: r, i => bif Nat.beq a.at_ i then a else anOf r i

def noCall : Nat → List PV → Hp → Option (PV × Hp) := fun _ _ _ => none

abbrev OK := Option FV → Option (Nat × PV) → Hp → Prop
abbrev CK := PV → List PV → Hp → (PV → Hp → Prop) → Prop

def wv (H : Hp) (K : OK) (p : PV) : Prop := K (some (.v p)) none H

/-! Pure data of a value, as a condition. -/
def WPur1 (H : Hp) (x : PV) (K : PV → Hp → Prop) : Prop :=
  match x with
  | .bool b => K (.bool b) H
  | .int k n => K (.int k n) H
  | .nils | .emp => K (.data []) H
  | .data rows => K (.data rows) H
  | .own id lo len ext _ =>
    (match H[id]? with
     | some b => asr (decide (b.rows.length = ext)) (asr (decide (lo + len ≤ ext)) (asr b.pu (K (.data ((b.rows.drop lo).take len)) (H.set id { b with fz := true }))))
     | none => False)
  | _ => False
def WPurL : Hp → List PV → (List PV → Hp → Prop) → Prop
  | H, [], K => K [] H
  | H, x :: r, K => WPur1 H x fun y H' => WPurL H' r fun ys H'' => K (y :: ys) H''
def WPurV (H : Hp) (x : PV) (K : PV → Hp → Prop) : Prop :=
  match x with
  | .agg cs => WPurL H cs fun ys H' => K (.agg ys) H'
  | x => WPur1 H x K
def WPurA : Hp → List PV → (List PV → Hp → Prop) → Prop
  | H, [], K => K [] H
  | H, x :: r, K => WPurV H x fun y H' => WPurA H' r fun ys H'' => K (y :: ys) H''
def WPurR (H : Hp) (x : PV) (K : PV → Prop) : Prop :=
  match x with
  | .tup ps => WPurA H ps fun qs _ => K (.tup qs)
  | x => WPurV H x fun q _ => K q
def WPurIf (pu : Bool) (H : Hp) (x : PV) (K : PV → Hp → Prop) : Prop := match pu with | true => WPurV H x K | false => K x H

def WFill (E : Env) (F : Frm) (pu : Bool) (esz : Nat) : List PV → Hp → List (Nat × Opd) → (List PV → Hp → Prop) → Prop
  | rows, H, [], K => K rows H
  | rows, H, (i, x) :: r, K =>
    match evV E F x with
    | some p => WPurIf pu H p fun q H' => asr (Nat.beq q.cells.length esz && Nat.blt i rows.length && allOne q.cells) (WFill E F pu esz (rows.set i q) H' r K)
    | none => False

def WBin (op : BinOp) (k k' : IntKind) (a b : Int) (K : PV → Prop) : Prop :=
  match op with
  | .quo => asr (decide (k = k')) (asr (!decide (b = 0)) (K (.int k (k.wrap (a.tdiv b)))))
  | .rem => asr (decide (k = k')) (asr (!decide (b = 0)) (K (.int k (a.tmod b))))
  | .shl => asr (!decide (b < 0)) (K (.int k (k.wrap (a * 2 ^ (min b.toNat k.bits)))))
  | .shr => asr (!decide (b < 0)) (K (.int k (a.fdiv (2 ^ (min b.toNat k.bits)))))
  | op => asr (decide (k = k')) (match binI op k a b with | some r => K r | none => False)

def WSplit (n : Nat) (j : Int) (K : Nat → Prop) : Nat → Prop
  | 0 => False
  | m + 1 => cbr (decide (j = ((n - (m + 1) : Nat) : Int))) (K (n - (m + 1))) (WSplit n j K m)

/-- A table of bytes. -/
def allU8 : List PV → Bool
  | [] => true
  | .int .u8 _ :: r => allU8 r
  | _ => false
def WTab (agg : Bool) (n esz : Nat) (cs : List PV) (j : Int) (K : PV → Prop) : Prop :=
  asr (!agg && (Nat.beq esz 1 && (Nat.beq n cs.length && allU8 cs))) (asr (decide (0 ≤ j)) (asr (decide (j < (n : Int))) (K (.int .u8 (intOfV (cs.getD j.toNat .nils))))))

/-- The rows of a slice that is read as a whole. -/
def WRows (H : Hp) (x : PV) (K : List PV → Prop) : Prop :=
  match x with
  | .nils | .emp => K []
  | .data rows => K rows
  | .own id lo len ext _ =>
    (match H[id]? with
     | some b => asr (decide (b.rows.length = ext)) (asr (decide (lo + len ≤ ext)) (K ((b.rows.drop lo).take len)))
     | none => False)
  | _ => False

def WFresh (H : Hp) (pu : Bool) (esz bytes : Nat) (rows : List PV) (K : PV → Hp → Prop) : Prop :=
  asr (decide ((rows.length + 64) * (bytes + 1) ≤ room)) (K (.own H.length 0 rows.length rows.length none) (H ++ [⟨false, pu, esz, rows⟩]))

/-- Append; the mode says which of the ways is looked at: 0: into the room where the capacity is known, else the block grows; 1: into the room; 2: a new block; 9: whichever. -/
def WApp (md : Nat) (H : Hp) (pu : Bool) (esz bytes : Nat) (s : PV) (ys : List PV) (K : PV → Hp → Prop) : Prop :=
  match s with
  | .nils => cbr ys.isEmpty (K .nils H) (WFresh H pu esz bytes ys K)
  | .emp => cbr ys.isEmpty (K .emp H) (WFresh H pu esz bytes ys K)
  | .own id lo len ext cap =>
    (match H[id]? with
     | some b =>
       asr (decide (b.rows.length = ext)) (asr (decide (b.pu = pu) && decide (b.esz = esz)) (asr (decide (lo + len ≤ ext))
         (cbr ys.isEmpty (K (.own id lo len ext cap) H)
           (match cap with
            | some c =>
              let W1 := asr (!b.fz) (K (.own id lo (len + ys.length) ext cap) (H.set id { b with rows := b.rows.take (lo + len) ++ (ys ++ b.rows.drop (lo + len + ys.length)) }))
              let W2 := WFresh H pu esz bytes ((b.rows.drop lo).take len ++ ys) K
              (match md with
               | 9 => cbr (decide (len + ys.length ≤ c)) W1 W2
               | 2 => asr (!decide (len + ys.length ≤ c)) W2
               | _ => asr (decide (len + ys.length ≤ c)) W1)
            | none =>
              let W1 := K (.own id lo (len + ys.length) ext none) (H.set id { b with rows := b.rows.take (lo + len) ++ (ys ++ b.rows.drop (lo + len + ys.length)) })
              let W3 := asr (decide (lo = 0)) (asr (decide (len = ext)) (asr (decide ((ext + ys.length + 64) * (bytes + 1) ≤ room))
                (K (.own id 0 (b.rows ++ ys).length (b.rows ++ ys).length none) (H.set id { b with rows := b.rows ++ ys }))))
              asr (!b.fz) (match md with
               | 9 => cbr (decide (lo + len + ys.length ≤ ext)) W1 W3
               | 1 => asr (decide (lo + len + ys.length ≤ ext)) W1
               | _ => asr (!decide (lo + len + ys.length ≤ ext)) W3)))))
     | none => False)
  | _ => False

def WSlice (H : Hp) (esz : Nat) (lo hi mx : Option Int) (x : PV) (K : PV → Prop) : Prop :=
  match x with
  | .nils => asr (decide (lo.getD 0 = 0) && (decide (hi.getD 0 = 0) && decide (mx.getD 0 = 0))) (K .nils)
  | .emp => asr (decide (lo.getD 0 = 0) && (decide (hi.getD 0 = 0) && decide (mx.getD 0 = 0))) (K .emp)
  | .data rows =>
    let h := hi.getD rows.length
    let l := lo.getD 0
    (match mx with
     | none => asr (decide (0 ≤ l)) (asr (decide (l ≤ h)) (asr (decide (h ≤ rows.length)) (asr (decide (l = 0) || headOk esz rows) (K (.data ((rows.take h.toNat).drop l.toNat))))))
     | some m => asr (decide (0 ≤ l)) (asr (decide (l ≤ h)) (asr (decide (h ≤ m)) (asr (decide (m ≤ rows.length)) (asr (decide (l = 0) || headOk esz rows)
         (cbr (decide (l = m)) (K .emp) (K (.data ((rows.take h.toNat).drop l.toNat)))))))))
  | .own id lo0 len ext cap =>
    let h := hi.getD len
    let l := lo.getD 0
    (match H[id]? with
     | some b => asr (b.esz == esz)
       (match mx with
        | none => asr (decide (0 ≤ l)) (asr (decide (l ≤ h)) (asr (decide (h ≤ len) || decide (h ≤ topOf len cap)) (K (.own id (lo0 + l.toNat) (h - l).toNat ext (cap.map fun c => c - l.toNat)))))
        | some m => asr (decide (0 ≤ l)) (asr (decide (l ≤ h)) (asr (decide (h ≤ m)) (asr (decide (m ≤ len) || decide (m ≤ topOf len cap)) (K (.own id (lo0 + l.toNat) (h - l).toNat ext (some (m - l).toNat)))))))
     | none => False)
  | _ => False

def shCells : Sh → Nat
  | .raw => 0
  | .one _ => 1
  | .agg l => l.length

/-- A row of a block. -/
def WRow (sh : Sh) (rows : List PV) (i : Nat) (K : PV → Prop) : Prop :=
  match sh with
  | .raw => (match rows[i]? with | some r => K r | none => False)
  | sh => asr (decide (i < rows.length)) (asr (conf sh (rows.getD i .nils)) (K (expl sh (rows.getD i .nils))))

def WOp (E : Env) (callK : CK) (a : An) (F : Frm) (H : Hp) (o : AOp) (K : OK) : Prop :=
  match o with
  | .pick c x y =>
    (match evV E F c with
     | some (.bool t) => cbr t (match evV E F x with | some p => wv H K p | none => False) (match evV E F y with | some p => wv H K p | none => False)
     | _ => False)
  | .bin op x y =>
    (match evV E F x, evV E F y with
     | some (.int k p), some (.int k' q) => WBin op k k' p q (wv H K)
     | _, _ => False)
  | .load agg sz x =>
    (match ev E F x with
     | some (.v (.ptr id ext i off)) =>
       (match H[id]? with
        | some b => asr (decide (b.rows.length = ext)) (WRow a.sh b.rows i fun row => match partOf agg sz row off with | some p => wv H K p | none => False)
        | none => False)
     | _ => (match opOut E noCall F H (.load agg sz x) with | some ⟨x, bx, H'⟩ => K x bx H' | none => False))
  | .store sz x y =>
    (match ev E F x with
     | some (.v (.ptr id ext i off)) =>
       (match evV E F y with
        | some p =>
          (match H[id]? with
           | some b0 =>
             WPurIf b0.pu H p fun q H' =>
                (match H'[id]? with
                 | some b => asr (decide (b.rows.length = ext)) (asr (!b.fz) (WRow a.sh b.rows i fun row => match setPart row off sz q with
                     | some row' => K none none (H'.set id { b with rows := b.rows.set i row' })
                     | none => False))
                 | none => False)
           | none => False)
        | none => False)
     | _ => (match opOut E noCall F H (.store sz x y) with | some ⟨x, bx, H'⟩ => K x bx H' | none => False))
  | .iad esz x i =>
    (match evV E F x, evInt E F i with
     | some (.data rows), some n =>
       asr (decide (0 ≤ n)) (asr (decide (n < rows.length)) (asr (conf a.sh (rows.getD n.toNat .nils)) (asr (decide ((expl a.sh (rows.getD n.toNat .nils)).cells.length = esz)) (wv H K (.eptr [expl a.sh (rows.getD n.toNat .nils)] 0 0)))))
     | some (.own id lo len ext _), some n =>
       (match H[id]? with
        | some b => asr (decide (0 ≤ n)) (asr (decide (n < len)) (asr (decide (b.esz = esz)) (wv H K (.ptr id ext (lo + n.toNat) 0))))
        | none => False)
     | _, _ => False)
  | .iadA n esz x i =>
    (match ev E F x, evInt E F i with
     | some (.bp s o), some j => WSplit n j (fun k => K (some (.bp s (o + k * esz))) none H) n
     | some (.v (.ptr id e r o)), some j => WSplit n j (fun k => wv H K (.ptr id e r (o + k * esz))) n
     | some (.v (.eptr rows r o)), some j => WSplit n j (fun k => wv H K (.eptr rows r (o + k * esz))) n
     | _, _ => False)
  | .idx agg n esz x i =>
    (match evV E F x, evInt E F i with
     | some (.agg cs), some j => (match x with
       | .c _ => WTab agg n esz cs j (wv H K)
       | _ => WSplit n j (fun k => match partOf agg esz (.agg cs) (k * esz) with | some p => wv H K p | none => False) n)
     | _, _ => False)
  | .slc esz x lo hi mx =>
    (match evV E F x, evO E F lo, evO E F hi, evO E F mx with
     | some p, some l, some h, some m => (match (m.isSome && h.isNone) with | true => False | false => WSlice H esz l h m p (wv H K))
     | _, _, _, _ => False)
  | .mkSl pu esz bytes z l c =>
    (match evInt E F l, evInt E F c with
     | some l, some c => asr (decide (0 ≤ l)) (asr (decide (l ≤ c)) (asr (decide ((c.toNat + 64) * (bytes + 1) ≤ room))
         (K (some (.v (.own H.length 0 l.toNat c.toNat (some c.toNat)))) none (H ++ [⟨false, pu, esz, List.replicate c.toNat z⟩]))))
     | _, _ => False)
  | .app pu esz bytes s x =>
    (match evV E F s, evV E F x with
     | some s, some x => WRows H x fun ys => asr (headOk esz ys) (asr (srcOk H pu x) (WApp a.md H pu esz bytes s ys fun r H' => K (some (.v r)) none H'))
     | _, _ => False)
  | .boxH pu esz x =>
    (match evV E F x with
     | some p => WPurIf pu H p fun q H' => asr (Nat.beq q.cells.length esz && allOne q.cells) (K (some (.v (.ptr H'.length 1 0 0))) none (H' ++ [⟨false, pu, esz, [q]⟩]))
     | none => False)
  | .buildSl pu esz z len parts =>
    (match len with
     | 0 => wv H K .emp
     | len + 1 => WFill E F pu esz (List.replicate (len + 1) z) H parts fun rows H' => K (some (.v (.own H'.length 0 (len + 1) (len + 1) (some (len + 1))))) none (H' ++ [⟨false, pu, esz, rows⟩]))
  | .buildD esz z len parts =>
    (match len with
     | 0 => wv H K .emp
     | len + 1 => WFill E F true esz (List.replicate (len + 1) z) H parts fun rows H' => K (some (.v (.data rows))) none H')
  | .call f args =>
    (match evV E F f, evs E F args with
     | some g, some vs => callK g vs H fun r H' => K (some (.v r)) none H'
     | _, _ => False)
  | o => (match opOut E noCall F H o with | some ⟨x, bx, H'⟩ => K x bx H' | none => False)

/-- A slot's value, known better. -/
def frep : Frm → Nat → FV → Frm
  | [], _, _ => []
  | (k, y) :: r, s, x => bif Nat.beq k s then (k, x) :: r else (k, y) :: frep r s x

/-- A guard. -/
def WGuard (F : Frm) (g : Option (Nat × Bool)) (yes no : Frm → Prop) : Prop :=
  match g with
  | none => yes F
  | some (s, want) => (match fget F s with
    | some (.v (.bool b)) => (match want with
      | true => cbr b (yes (frep F s (.v (.bool true)))) (no (frep F s (.v (.bool false))))
      | false => cbr b (no (frep F s (.v (.bool true)))) (yes (frep F s (.v (.bool false)))))
    | some (.v (.tup [])) => no F
    | _ => False)

/-- A test on a slot. -/
def fref (F : Frm) (c : Opd) (b : Bool) : Frm :=
  match c with
  | .t s => frep F s (.v (.bool b))
  | _ => F

def skipDst (F : Frm) : Option Nat → Frm
  | some d => fset F d (.v (.tup []))
  | none => F

/-! The frame and the heap, worked out ahead of what comes next (so that the kernel does it once). -/
def frcP (p : PV) (K : PV → Prop) : Prop :=
  match p with
  | .bool b => K (.bool b)
  | .int k n => K (.int k n)
  | .agg cs => K (.agg cs)
  | .data r => K (.data r)
  | .own a b c d e => K (.own a b c d e)
  | .ptr a b c d => K (.ptr a b c d)
  | p => K p
def frcL : List PV → (List PV → Prop) → Prop
  | [], K => K []
  | x :: r, K => frcP x fun x => frcL r fun r => K (x :: r)
def frcA (p : PV) (K : PV → Prop) : Prop :=
  match p with
  | .agg cs => frcL cs fun cs => K (.agg cs)
  | .tup cs => frcL cs fun cs => K (.tup cs)
  | p => frcP p K
def frcV (x : FV) (K : FV → Prop) : Prop :=
  match x with
  | .v p => frcA p fun p => K (.v p)
  | .box p => frcA p fun p => K (.box p)
  | .bp s o => K (.bp s o)
def frcF : Frm → (Frm → Prop) → Prop
  | [], K => K []
  | (k, x) :: r, K => frcV x fun x => frcF r fun r => K ((k, x) :: r)
def frcB (b : Bool) (K : Bool → Prop) : Prop := match b with | true => K true | false => K false
def frcH : Hp → (Hp → Prop) → Prop
  | [], K => K []
  | ⟨fz, pu, esz, rows⟩ :: r, K => frcB fz fun fz => frcB pu fun pu => frcH r fun r => K (⟨fz, pu, esz, rows⟩ :: r)

theorem frcP_eq (p : PV) (K : PV → Prop) : frcP p K = K p := by cases p <;> rfl
theorem frcL_eq : ∀ (l : List PV) (K : List PV → Prop), frcL l K = K l
  | [], _ => rfl
  | x :: r, K => by simp only [frcL, frcP_eq, frcL_eq r]
theorem frcA_eq (p : PV) (K : PV → Prop) : frcA p K = K p := by cases p <;> simp only [frcA, frcL_eq, frcP_eq]
theorem frcV_eq (x : FV) (K : FV → Prop) : frcV x K = K x := by cases x <;> simp only [frcV, frcA_eq]
theorem frcF_eq : ∀ (F : Frm) (K : Frm → Prop), frcF F K = K F
  | [], _ => rfl
  | (k, x) :: r, K => by simp only [frcF, frcV_eq, frcF_eq r]
theorem frcB_eq (b : Bool) (K : Bool → Prop) : frcB b K = K b := by cases b <;> rfl
theorem frcH_eq : ∀ (H : Hp) (K : Hp → Prop), frcH H K = K H
  | [], _ => rfl
  | ⟨fz, pu, esz, rows⟩ :: r, K => by simp only [frcH, frcB_eq, frcH_eq r]
def frc (F : Frm) (H : Hp) (K : Frm → Hp → Prop) : Prop := frcF F fun F => frcH H fun H => K F H
theorem frc_eq (F : Frm) (H : Hp) (K : Frm → Hp → Prop) : frc F H K = K F H := by simp only [frc, frcF_eq, frcH_eq]

def WOps (E : Env) (callK : CK) (an : List An) : List AOper → Nat → Frm → Hp → (Frm → Hp → Prop) → Prop
  | [], _, F, H, K => K F H
  | o :: r, i, F, H, K =>
    WGuard F o.guard
      (fun F => WOp E callK (anOf an i) F H o.op fun x bx H' => match putDst (putBx F bx) o.dst x with
        | none => False
        | some F' => frc F' H' fun F' H' => WOps E callK an r (i + 1) F' H' K)
      (fun F => WOps E callK an r (i + 1) (skipDst F o.dst) H K)

/-- What an operation touches, if it runs; if not. -/
def fpYes (E : Env) (F : Frm) (H : Hp) (o : AOper) : FP :=
  let p := fpOp E F H o.op; ⟨gSlots o.guard ++ p.rd, o.dst.toList ++ p.wr, p.hr, p.hw, p.push, p.all⟩
def fpNo (o : AOper) : FP := ⟨gSlots o.guard, o.dst.toList, [], [], false, false⟩

def WFps (E : Env) (callK : CK) (an : List An) (F0 : Frm) (l0 : List AOper) (pairs : List (Nat × Nat)) : List AOper → Nat → Frm → Hp → List FP → (Frm → Hp → Prop) → Prop
  | [], _, F, H, ps, K => asr (apart ps.reverse pairs && boxesOk F0 l0 l0) (K F H)
  | o :: r, i, F, H, ps, K =>
    WGuard F o.guard
      (fun F => WOp E callK (anOf an i) F H o.op fun x bx H' => match putDstU (putBx F bx) o.dst x with
        | none => False
        | some F' => frc F' H' fun F' H' => WFps E callK an F0 l0 pairs r (i + 1) F' H' (fpYes E F H o :: ps) K)
      (fun F => WFps E callK an F0 l0 pairs r (i + 1) (skipDst F o.dst) H (fpNo o :: ps) K)

/-- The loops' conditions, by their names. -/
abbrev LP := Nat → Frm → Hp → (Ex → Frm → Hp → Prop) → Prop

def WC (E : Env) (callK : CK) (lp : LP) : TCode → Frm → Hp → (Ex → Frm → Hp → Prop) → Prop
  | .skip, F, H, Q => Q .norm F H
  | .ops l an [] fg, F, H, Q => WOps E callK an l 0 F H fun F' H' => frc (fdels F' fg) H' fun F' H' => Q .norm F' H'
  | .ops l an (p :: ps) fg, F, H, Q => WFps E callK an (cleanB F l) l (p :: ps) l 0 (cleanB F l) H [] fun F' H' => frc (fdels F' fg) H' fun F' H' => Q .norm F' H'
  | .seq a b, F, H, Q => WC E callK lp a F H fun x F' H' => match x with
    | .norm => WC E callK lp b F' H' Q
    | .exit i => Q (.exit i) F' H'
    | .ret => Q .ret F' H'
  | .cond c a b, F, H, Q => (match evV E F c with
    | some (.bool t) => cbr t (WC E callK lp a (fref F c true) H Q) (WC E callK lp b (fref F c false) H Q)
    | _ => False)
  | .block id b, F, H, Q => WC E callK lp b F H fun x F' H' => match x with
    | .norm => Q .norm F' H'
    | .exit i => (bif Nat.beq i id then Q .norm F' H' else Q (.exit i) F' H')
    | .ret => Q .ret F' H'
  | .loop id _, F, H, Q => lp id F H Q
  | .exit id, F, H, Q => Q (.exit id) F H
  | .ret, F, H, Q => Q .ret F H
  | .bad, _, _, _ => False

/-- What a function hands back to code in the same heap. -/
def WFn (E : Env) (callK : CK) (lp : LP) (fn : TFn) (args : List PV) (H : Hp) (K : PV → Hp → Prop) : Prop :=
  asr (decide (args.length = fn.nparams)) (WC E callK lp fn.body (frame0 0 args) H fun x F' H' => match x with
    | .exit _ => False
    | .norm | .ret => (match ressOf F' H' fn.results with | some ps => K (packed ps) H' | none => False))

/-- Functions of pure data, by their conditions; functions that run in the caller's heap. -/
structure SE where
  E : Env
  sumK : Nat → Option (List PV → (PV → Prop) → Prop)
  inl : Nat → Option TFn
  lp : LP

def callW (S : SE) : Nat → CK
  | 0, _, _, _, _ => False
  | d + 1, f, args, H, K =>
    match f with
    | .fn (.func n) first captured =>
      (match S.sumK n with
       | some wp => WPurA H (first ++ args ++ captured) fun as H' => wp as fun r => K r (bif r.scalar then H else H')
       | none => (match S.inl n with
         | some fn => WFn S.E (callW S d) S.lp fn (first ++ args ++ captured) H K
         | none => False))
    | _ => False

/-- A function of pure data. -/
@[irreducible] def WP (S : SE) (d : Nat) (fn : TFn) (args : List PV) (K : PV → Prop) : Prop :=
  WFn S.E (callW S d) S.lp fn args [] fun r H => WPurR H r K

end Go.Pf
