/- The framework, part 1: pure values, the small code, and its evaluator. Nothing here speaks of a program. -/
import GoSem.Core.Code
import GoSem.Core.View
namespace Go.Pf

/-- Pure values. 'data': a slice (nil or not) whose elements nobody writes any more; 'emp': an empty slice without room; 'mt': an empty slice of which it is known whether it is nil; 'own': a slice into a block of the evaluator's own. -/
inductive PV where
  | bool (b : Bool)
  | int (k : IntKind) (n : Int)
  | nilp
  | ptr (id ext i off : Nat)
  | eptr (rows : List PV) (i off : Nat)
  | nils
  | emp
  | mt (nil : Bool)
  | data (rows : List PV)
  | own (id lo len ext : Nat) (cap : Option Nat)
  | sub (id ext i off n esz : Nat)
  | fn (f : Fn) (first captured : List PV)
  | nilf
  | agg (cells : List PV)
  | tup (vs : List PV)
  deriving Inhabited

/-- What a frame knows of a slot: a value; a variable (a struct of the function's own, by its content); a pointer into such a variable. -/
inductive FV where
  | v (p : PV)
  | box (row : PV)
  | bp (s off : Nat)
  deriving Inhabited

abbrev Frm := List (Nat × FV)

def fget : Frm → Nat → Option FV
  | [], _ => none
  | (k, x) :: r, s => if k = s then some x else fget r s

def fset : Frm → Nat → FV → Frm
  | [], s, y => [(s, y)]
  | (k, x) :: r, s, y => if s < k then (s, y) :: (k, x) :: r else if k = s then (s, y) :: r else (k, x) :: fset r s y

def fdel : Frm → Nat → Frm
  | [], _ => []
  | (k, x) :: r, s => if k = s then fdel r s else (k, x) :: fdel r s

def fdels : Frm → List Nat → Frm
  | F, [] => F
  | F, s :: l => fdels (fdel F s) l

/-- A block of the evaluator's own: frozen or not; do its rows hold pure data alone; how many cells a row has. -/
structure HB where
  fz : Bool
  pu : Bool
  esz : Nat
  rows : List PV
  deriving Inhabited

abbrev Hp := List HB

inductive Opd where
  | t (s : Nat)
  | c (v : PV)
  | g (n : Nat)
  | f (n : Nat)
  deriving Inhabited

inductive AOp where
  | mv (x : Opd)
  | mvD (x : Opd)
  | slcA (n esz : Nat) (x : Opd)
  | pick (c a b : Opd)
  | allocL (z : PV)
  | boxL (x : Opd)
  | allocH (pu : Bool) (esz : Nat) (z : PV)
  | boxH (pu : Bool) (esz : Nat) (x : Opd)
  | build (z : List PV) (parts : List (Nat × Nat × Opd))
  | buildSl (pu : Bool) (esz : Nat) (z : PV) (len : Nat) (parts : List (Nat × Opd))
  | buildN (pu : Bool) (esz : Nat) (z : PV) (len : Nat) (parts : List (Nat × Opd))
  | buildD (esz : Nat) (z : PV) (len : Nat) (parts : List (Nat × Opd))
  | load (agg : Bool) (sz : Nat) (a : Opd)
  | store (sz : Nat) (a x : Opd)
  | bin (op : BinOp) (x y : Opd)
  | eqB (neg : Bool) (x y : Opd)
  | eqA (neg : Bool) (sz : Nat) (idx : List (Nat × Option IntKind)) (x y : Opd)
  | eqN (neg : Bool) (x : Opd)
  | un (op : UnOp) (x : Opd)
  | conv (k : IntKind) (x : Opd)
  | mkFn (f : Fn) (first captured : List Opd)
  | mkSl (pu : Bool) (esz bytes : Nat) (z : PV) (l c : Opd)
  | slc (esz : Nat) (x : Opd) (lo hi mx : Option Opd)
  | fad (off : Nat) (x : Opd)
  | fld (agg : Bool) (sz off : Nat) (x : Opd)
  | iad (esz : Nat) (x i : Opd)
  | iadA (n esz : Nat) (x i : Opd)
  | idx (agg : Bool) (n esz : Nat) (x i : Opd)
  | ext (x : Opd) (i : Nat)
  | call (f : Opd) (args : List Opd)
  | len (x : Opd)
  | cap (x : Opd)
  | app (pu : Bool) (esz bytes : Nat) (s x : Opd)
  | appZ (pu : Bool) (esz bytes : Nat) (z : PV) (s n : Opd)
  | clr (pu : Bool) (esz : Nat) (z : PV) (x : Opd)
  | minmax (mx : Bool) (l : List Opd)
  | nilchk (x : Opd)
  | dfr (n : Nat)
  | bad
  deriving Inhabited

structure AOper where
  dst : Option Nat
  op : AOp
  guard : Option (Nat × Bool)
  deriving Inhabited

inductive ACode where
  | skip
  | ops (l : List AOper) (pairs : List (Nat × Nat)) (forget : List Nat)
  | seq (a b : ACode)
  | cond (c : Opd) (a b : ACode)
  | block (id : Nat) (b : ACode)
  | loop (b : ACode)
  | loopG (b : ACode)
  | exit (id : Nat)
  | ret
  | bad
  | rangeF (g : Opd) (ps : List Nat) (as body : ACode)
  | yret (c : ACode) (pre : List AOper) (d : Nat) (y : Opd) (args : List Opd) (e : Nat) (fgt : List Nat)
  deriving Inhabited

inductive ARes where
  | tmp (t : Nat)
  | cell (a : Nat) (agg : Bool) (sz : Nat)
  deriving Inhabited

structure AFn where
  nparams : Nat
  results : List ARes
  body : ACode
  deriving Inhabited

/-! Rows and their parts. -/

def PV.cells : PV → List PV
  | .agg cs => cs
  | x => [x]

/-- The value of one cell. -/
def PV.one : PV → Bool
  | .agg _ | .tup _ => false
  | _ => true

def allOne : List PV → Bool
  | [] => true
  | x :: r => x.one && allOne r

def partOf (agg : Bool) (sz : Nat) (row : PV) (off : Nat) : Option PV :=
  if agg then (if off + sz ≤ row.cells.length then some (.agg ((row.cells.drop off).take sz)) else none)
  else row.cells[off]?

def setPart (row : PV) (off sz : Nat) (x : PV) : Option PV :=
  match row with
  | .agg cs => if x.cells.length = sz ∧ off + sz ≤ cs.length ∧ allOne x.cells = true then some (.agg (cs.take off ++ (x.cells ++ cs.drop (off + sz)))) else none
  | .tup _ => none
  | _ => if off = 0 ∧ sz = 1 ∧ x.one = true then some x else none

/-! Slices. -/

def hget (H : Hp) (id : Nat) : Option HB := H[id]?

/-- The rows of a slice. -/
def rowsOf (H : Hp) : PV → Option (List PV)
  | .nils | .emp | .mt _ => some []
  | .data rows => some rows
  | .own id lo len ext _ =>
    match H[id]? with
    | some b => if b.rows.length = ext ∧ lo + len ≤ ext then some ((b.rows.drop lo).take len) else none
    | none => none
  | _ => none

/-- Pure data of a value: blocks that it reaches are frozen. -/
def purify1 (H : Hp) : PV → Option (PV × Hp)
  | .bool b => some (.bool b, H)
  | .int k n => some (.int k n, H)
  | .nils | .emp | .mt _ => some (.data [], H)
  | .data rows => some (.data rows, H)
  | .own id lo len ext _ =>
    match H[id]? with
    | some b => if b.rows.length = ext ∧ lo + len ≤ ext ∧ b.pu = true then some (.data ((b.rows.drop lo).take len), H.set id { b with fz := true }) else none
    | none => none
  | _ => none

def purifyL (H : Hp) : List PV → Option (List PV × Hp)
  | [] => some ([], H)
  | x :: r => match purify1 H x with
    | some (y, H') => match purifyL H' r with
      | some (ys, H'') => some (y :: ys, H'')
      | none => none
    | none => none

def purify (H : Hp) : PV → Option (PV × Hp)
  | .agg cs => (purifyL H cs).map fun (ys, H') => (.agg ys, H')
  | x => purify1 H x

def purifyAll (H : Hp) : List PV → Option (List PV × Hp)
  | [] => some ([], H)
  | x :: r => match purify H x with
    | some (y, H') => match purifyAll H' r with
      | some (ys, H'') => some (y :: ys, H'')
      | none => none
    | none => none

/-- Numbers and truths alone. -/
def PV.scal : PV → Bool
  | .bool _ | .int _ _ => true
  | _ => false
def scalL : List PV → Bool
  | [] => true
  | x :: r => x.scal && scalL r
def PV.scalar : PV → Bool
  | .agg cs => scalL cs
  | .tup [] => true
  | .tup [a] => (match a with | .agg cs => scalL cs | x => x.scal)
  | .tup [a, b] => (match a with | .agg cs => scalL cs | x => x.scal) && (match b with | .agg cs => scalL cs | x => x.scal)
  | .tup [a, b, c] => (match a with | .agg cs => scalL cs | x => x.scal) && ((match b with | .agg cs => scalL cs | x => x.scal) && (match c with | .agg cs => scalL cs | x => x.scal))
  | x => x.scal

/-! Numbers. -/

def binI (op : BinOp) (k : IntKind) (a b : Int) : Option PV :=
  match op with
  | .add => some (.int k (k.wrap (a + b)))
  | .sub => some (.int k (k.wrap (a - b)))
  | .mul => some (.int k (k.wrap (a * b)))
  | .quo => if b = 0 then none else some (.int k (k.wrap (a.tdiv b)))
  | .rem => if b = 0 then none else some (.int k (a.tmod b))
  | .and => some (.int k (k.wrap (BitVec.ofInt k.bits a &&& BitVec.ofInt k.bits b).toNat))
  | .or => some (.int k (k.wrap (BitVec.ofInt k.bits a ||| BitVec.ofInt k.bits b).toNat))
  | .xor => some (.int k (k.wrap (BitVec.ofInt k.bits a ^^^ BitVec.ofInt k.bits b).toNat))
  | .andNot => some (.int k (k.wrap (BitVec.ofInt k.bits a &&& ~~~ BitVec.ofInt k.bits b).toNat))
  | .eql => some (.bool (a == b))
  | .neq => some (.bool (a != b))
  | .lss => some (.bool (decide (a < b)))
  | .leq => some (.bool (decide (a ≤ b)))
  | .gtr => some (.bool (decide (a > b)))
  | .geq => some (.bool (decide (a ≥ b)))
  | .shl | .shr => none

def shiftI (op : BinOp) (k : IntKind) (a b : Int) : Option PV :=
  if b < 0 then none else
  match op with
  | .shl => some (.int k (k.wrap (a * 2 ^ (min b.toNat k.bits))))
  | .shr => some (.int k (a.fdiv (2 ^ (min b.toNat k.bits))))
  | _ => none

def binV (op : BinOp) : PV → PV → Option PV
  | .int k a, .int k' b =>
    match op with
    | .shl => shiftI .shl k a b
    | .shr => shiftI .shr k a b
    | op => if k = k' then binI op k a b else none
  | _, _ => none

def unV (op : UnOp) : PV → Option PV
  | .int k n => (match op with
    | .neg => some (.int k (k.wrap (0 - n)))
    | .xor => some (.int k (k.wrap (BitVec.ofInt k.bits (if k.signed then -1 else k.max) ^^^ BitVec.ofInt k.bits n).toNat))
    | _ => none)
  | .bool b => (match op with | .not => some (.bool !b) | _ => none)
  | _ => none

/-- Equality of cells that are numbers or truths. -/
def eq1 : Option IntKind → PV → PV → Option Bool
  | some q, .int k a, .int k' b => if k = q ∧ k' = q then some (a == b) else none
  | none, .bool a, .bool b => some (a == b)
  | _, _, _ => none
def eqL (a b : List PV) : List (Nat × Option IntKind) → Option Bool
  | [] => some true
  | (i, k) :: r => match a[i]?, b[i]? with
    | some x, some y => (match eq1 k x y, eqL a b r with
      | some p, some q => some (p && q)
      | _, _ => none)
    | _, _ => none

def minmaxV (mx : Bool) : PV → List PV → Option PV
  | x, [] => some x
  | .int k a, .int k' b :: r => if k = k' then minmaxV mx (.int k (if mx then (if b > a then b else a) else (if b < a then b else a))) r else none
  | _, _ => none

/-! Operands. -/

/-- A range over a function whose function is running: what the frame knew at its entry, the places of the rounds' values, the assignments, the body. -/
structure LCtx where
  F : Frm
  ps : List Nat
  as : ACode
  bd : ACode

structure Env where
  glob : Nat → Option PV
  sum : Nat → List PV → Option PV
  fns : Nat → Option AFn
  frz : Nat → Bool
  qui : Nat → Bool
  eff : Nat → List PV → Hp → Option (Bool × Bool × (PV × Hp) × (PV × Hp)) := fun _ _ _ => none
  nl : Nat → Bool := fun _ => false
  rb : Nat → Bool := fun _ => false
  lo : Nat → Option Nat := fun _ => none
  dn : Nat → Bool := fun _ => false
  yn : Nat := 0
  ctx : Nat → Option LCtx := fun _ => none
  yl : Nat → Nat → List PV → Hp → Option (Option Nat × Hp) := fun _ _ _ _ => none

/-- A heap of which nothing may be written. -/
def iceB (b : HB) : HB := ⟨true, b.pu, b.esz, b.rows⟩
def iceH : Hp → Hp
  | [] => []
  | b :: r => iceB b :: iceH r
/-- What an effect answers, if its condition holds: one of two. -/
def armOf : Option (Bool × Bool × (PV × Hp) × (PV × Hp)) → Option (PV × Hp)
  | some (true, t, x, y) => some (bif t then x else y)
  | _ => none
def Env.effx (E : Env) (n : Nat) (as : List PV) (H : Hp) : Option (PV × Hp) := armOf (E.eff n as H)

def ev (E : Env) (F : Frm) : Opd → Option FV
  | .t s => (match fget F s with | some (.box _) => some (.bp s 0) | r => r)
  | .c x => some (.v x)
  | .g n => (match E.glob n with | some x => some (.v (.eptr [x] 0 0)) | none => none)
  | .f n => some (.v (.fn (.func n) [] []))

def evV (E : Env) (F : Frm) (x : Opd) : Option PV :=
  match ev E F x with
  | some (.v p) => some p
  | _ => none

def evs (E : Env) (F : Frm) : List Opd → Option (List PV)
  | [] => some []
  | x :: r => match evV E F x with
    | some p => (match evs E F r with | some ps => some (p :: ps) | none => none)
    | none => none

def evInt (E : Env) (F : Frm) (x : Opd) : Option Int :=
  match evV E F x with
  | some (.int _ n) => some n
  | _ => none

def evO (E : Env) (F : Frm) : Option Opd → Option (Option Int)
  | none => some none
  | some x => (evInt E F x).map some

/-- The parts of a struct are filled in. -/
def fillP (E : Env) (F : Frm) : List PV → List (Nat × Nat × Opd) → Option (List PV)
  | cs, [] => some cs
  | cs, (off, sz, x) :: r =>
    match evV E F x with
    | some p => if p.cells.length = sz ∧ off + sz ≤ cs.length ∧ allOne p.cells = true then fillP E F (cs.take off ++ (p.cells ++ cs.drop (off + sz))) r else none
    | none => none

/-- The rows of a slice's literal. -/
def fillR (E : Env) (F : Frm) (pu : Bool) (esz : Nat) : List PV → Hp → List (Nat × Opd) → Option (List PV × Hp)
  | rows, H, [] => some (rows, H)
  | rows, H, (i, x) :: r =>
    match evV E F x with
    | some p =>
      (match (if pu then purify H p else some (p, H)) with
       | some (q, H') => if q.cells.length = esz ∧ i < rows.length ∧ allOne q.cells = true then fillR E F pu esz (rows.set i q) H' r else none
       | none => none)
    | none => none

def topOf (len : Nat) : Option Nat → Int
  | some c => c
  | none => len

/-- The first row has so many cells. -/
def headOk (esz : Nat) : List PV → Bool
  | [] => true
  | x :: _ => x.cells.length == esz

def sliceV (H : Hp) (esz : Nat) (lo hi mx : Option Int) : PV → Option PV
  | .nils => if lo.getD 0 = 0 ∧ hi.getD 0 = 0 ∧ mx.getD 0 = 0 then some .nils else none
  | .emp => if lo.getD 0 = 0 ∧ hi.getD 0 = 0 ∧ mx.getD 0 = 0 then some .emp else none
  | .data rows =>
    let h := hi.getD rows.length
    let l := lo.getD 0
    (match mx with
     | none => if 0 ≤ l ∧ l ≤ h ∧ h ≤ rows.length ∧ (l = 0 ∨ headOk esz rows = true) then some (.data ((rows.take h.toNat).drop l.toNat)) else none
     | some m => if 0 ≤ l ∧ l ≤ h ∧ h ≤ m ∧ m ≤ rows.length ∧ (l = 0 ∨ headOk esz rows = true) then (if l = m then some .emp else some (.data ((rows.take h.toNat).drop l.toNat))) else none)
  | .own id lo0 len ext cap =>
    let h := hi.getD len
    let l := lo.getD 0
    let top : Int := topOf len cap
    if (match H[id]? with | some b => b.esz == esz | none => false) = false then none else
    (match mx with
     | none => if 0 ≤ l ∧ l ≤ h ∧ (h ≤ len ∨ h ≤ top) then some (.own id (lo0 + l.toNat) (h - l).toNat ext (cap.map fun c => c - l.toNat)) else none
     | some m => if 0 ≤ l ∧ l ≤ h ∧ h ≤ m ∧ (m ≤ len ∨ m ≤ top) then some (.own id (lo0 + l.toNat) (h - l).toNat ext (some (m - l).toNat)) else none)
  | _ => none

def lenV : PV → Option Nat
  | .nils | .emp | .mt _ => some 0
  | .data rows => some rows.length
  | .own _ _ len _ _ => some len
  | .sub _ _ _ _ n _ => some n
  | _ => none

def capV : PV → Option Nat
  | .nils | .emp => some 0
  | .own _ _ _ _ (some c) => some c
  | _ => none

def room : Nat := 35184372088832

/-- The elements that are appended come out of a block of the same make. -/
def srcOk (H : Hp) (pu : Bool) : PV → Bool
  | .own id _ _ _ _ => (match H[id]? with | some b => b.pu == pu | none => false)
  | _ => true

def appFresh (H : Hp) (pu : Bool) (esz bytes : Nat) (rows : List PV) : Option (PV × Hp) :=
  if (rows.length + 64) * (bytes + 1) ≤ room then some (.own H.length 0 rows.length rows.length none, H ++ [⟨false, pu, esz, rows⟩]) else none

def appOwn (H : Hp) (pu : Bool) (esz bytes : Nat) (ys : List PV) (id lo len ext : Nat) (cap : Option Nat) (b : HB) : Option (PV × Hp) :=
  match cap with
  | some c =>
    if len + ys.length ≤ c then
      (if b.fz = false then some (.own id lo (len + ys.length) ext cap, H.set id { b with rows := b.rows.take (lo + len) ++ (ys ++ b.rows.drop (lo + len + ys.length)) }) else none)
    else appFresh H pu esz bytes ((b.rows.drop lo).take len ++ ys)
  | none =>
    if b.fz = true then none
    else if lo + len + ys.length ≤ ext then some (.own id lo (len + ys.length) ext cap, H.set id { b with rows := b.rows.take (lo + len) ++ (ys ++ b.rows.drop (lo + len + ys.length)) })
    else if lo = 0 ∧ len ≤ ext ∧ (len + ys.length + 64) * (bytes + 1) ≤ room then some (.own id 0 (len + ys.length) (len + ys.length) none, H.set id { b with rows := b.rows.take len ++ ys })
    else none

/-- Append. -/
def appV (H : Hp) (pu : Bool) (esz bytes : Nat) (s x : PV) : Option (PV × Hp) :=
  match rowsOf H x with
  | none => none
  | some ys =>
    if headOk esz ys = true ∧ srcOk H pu x = true then
      (match s with
       | .nils => if ys.isEmpty then some (.nils, H) else appFresh H pu esz bytes ys
       | .emp => if ys.isEmpty then some (.emp, H) else appFresh H pu esz bytes ys
       | .own id lo len ext cap =>
         (match H[id]? with
          | some b => if b.rows.length = ext ∧ b.pu = pu ∧ b.esz = esz ∧ lo + len ≤ ext then
              (if ys.isEmpty then some (.own id lo len ext cap, H) else appOwn H pu esz bytes ys id lo len ext cap b) else none
          | none => none)
       | _ => none)
    else none

/-- Append of a make: zeros behind nil. -/
def appZ (H : Hp) (pu : Bool) (esz bytes : Nat) (z : PV) (s : PV) (k : Nat) : Option (PV × Hp) :=
  match s with
  | .nils => if k = 0 then some (.nils, H) else appFresh H pu esz bytes (List.replicate k z)
  | _ => none

/-- A slice is cleared. -/
def clrV (H : Hp) (pu : Bool) (esz : Nat) (z : PV) : PV → Option Hp
  | .nils | .emp | .mt _ => some H
  | .own id lo len ext _ =>
    (match len with
     | 0 => some H
     | len + 1 => (match H[id]? with
       | some b => if b.rows.length = ext ∧ lo + (len + 1) ≤ ext ∧ b.fz = false ∧ b.pu = pu ∧ b.esz = esz then some (H.set id { b with rows := b.rows.take lo ++ (List.replicate (len + 1) z ++ b.rows.drop (lo + (len + 1))) }) else none
       | none => none))
  | _ => none

/-! One operation. -/

structure Out where
  x : Option FV
  bx : Option (Nat × PV)
  h : Hp

def outV (p : PV) (H : Hp) : Option Out := some ⟨some (.v p), none, H⟩

/-- Data of a value of a frozen heap: a pointer is one to data. -/
def purP (H : Hp) : PV → Option PV
  | .ptr id ext i off => (match H[id]? with
    | some b => if b.rows.length = ext then (match b.rows[i]? with
        | some row => (match purify H row with | some (q, _) => some (.eptr [q] 0 off) | none => none)
        | none => none) else none
    | none => none)
  | .eptr rows i off => some (.eptr rows i off)
  | x => (match purify H x with | some (q, _) => some q | none => none)
def purPs (H : Hp) : List PV → Option (List PV)
  | [] => some []
  | x :: r => match purP H x with
    | some y => (match purPs H r with | some ys => some (y :: ys) | none => none)
    | none => none

/-- A slice of slices, and a number, as data. -/
def deepR (H : Hp) : PV → Option PV
  | .tup [.own id lo len ext _, .int k n] => (match H[id]? with
    | some b => if b.rows.length = ext ∧ lo + len ≤ ext then (match purifyL H ((b.rows.drop lo).take len) with | some (ys, _) => some (.tup [.data ys, .int k n]) | none => none) else none
    | none => none)
  | _ => none

/-- A result, as pure data. -/
def purR (H : Hp) : PV → Option PV
  | .tup ps => (match purifyAll H ps with | some (qs, _) => some (.tup qs) | none => none)
  | x => (match purify H x with | some (q, _) => some q | none => none)

/-- A result as pure data; where it is asked for, nil stays nil. -/
def purN (b : Bool) (H : Hp) (x : PV) : Option PV := bif b then (match x with | .nils => some .nils | x => (match purR H x with | some q => some q | none => deepR H x)) else purR H x

/-- What a function answers for pure data: by a summary, or by a run in a heap of its own. -/
def pureRes (E : Env) (call : Nat → List PV → Hp → Option (PV × Hp)) (n : Nat) (ps : List PV) : Option PV :=
  match E.sum n ps with
  | some r => some r
  | none => if E.qui n then (match call n ps [] with | some (r, H) => purN (E.nl n) H r | none => none) else none

/-- A result, as pure data, and the heap. -/
def purRH (H : Hp) : PV → Option (PV × Hp)
  | .tup ps => (match purifyAll H ps with | some (qs, H') => some (.tup qs, H') | none => none)
  | x => purify H x
/-- A call that runs in a heap of its own, with one block of the caller. -/
structure LocC where
  n : Nat
  j : Nat
  all : List PV
  id : Nat
  y : PV
/-- A value that knows of one block, where that block is all. -/
def locY : PV → Option (Nat × PV)
  | .own id lo len ext cap => some (id, .own 0 lo len ext cap)
  | .ptr id ext i off => some (id, .ptr 0 ext i off)
  | _ => none
def locOf (E : Env) (f : PV) (args : List PV) : Option LocC :=
  match f with
  | .fn (.func n) first captured => (match E.lo n with
    | some j => (match (first ++ args ++ captured)[j]? with
      | some v => (match locY v with
        | some (id, y) => some ⟨n, j, first ++ args ++ captured, id, y⟩
        | none => none)
      | none => none)
    | none => none)
  | _ => none
/-- What such a call answers: data, and the block's rows. -/
def locRes (call : Nat → List PV → Hp → Option (PV × Hp)) (n : Nat) (as : List PV) (b : HB) : Option (PV × List PV) :=
  match call n as [b] with
  | some (r, H1) => (match purRH H1 r with
    | some (q, H2) => (match H2[0]? with
      | some b2 => if b2.fz = false ∧ b2.rows.length = b.rows.length then some (q, b2.rows) else none
      | none => none)
    | none => none)
  | none => none
def locRun (call : Nat → List PV → Hp → Option (PV × Hp)) (x : LocC) (H : Hp) : Option (PV × Hp) :=
  match purifyAll H (x.all.set x.j (.int .i64 0)) with
  | some (as, H') => (match H'[x.id]? with
    | some b => if b.fz = false ∧ b.pu = true then
        (match locRes call x.n (as.set x.j x.y) b with
         | some (q, rows) => some (q, H'.set x.id { b with rows := rows })
         | none => none) else none
    | none => none)
  | none => none
def callV0 (E : Env) (call : Nat → List PV → Hp → Option (PV × Hp)) (f : PV) (args : List PV) (H : Hp) : Option (PV × Hp) :=
  match f with
  | .fn (.func n) first captured =>
    if E.rb n then (match purPs (iceH H) (first ++ args ++ captured) with
      | some as => (match pureRes E call n as with
        | some r => if r.scalar then some (r, H) else none
        | none => none)
      | none => none)
    else
    (match (match purifyAll H (first ++ args ++ captured) with
       | some (as, H') => (match pureRes E call n as with
         | some r => if r.scalar then some (r, H) else some (r, H')
         | none => none)
       | none => none) with
     | some r => some r
     | none =>
       if E.qui n then none
       else if E.frz n then
         (match purifyAll H (first ++ args ++ captured) with
          | some (as, H') => call n as H'
          | none => none)
       else call n (first ++ args ++ captured) H)
  | .fn (.yield k) [] [] => (match E.yl E.yn k args H with | some (none, H') => some (.bool true, H') | _ => none)
  | _ => none

def callV (E : Env) (call : Nat → List PV → Hp → Option (PV × Hp)) (f : PV) (args : List PV) (H : Hp) : Option (PV × Hp) :=
  match locOf E f args with
  | some x => locRun call x H
  | none => callV0 E call f args H

def opOut (E : Env) (call : Nat → List PV → Hp → Option (PV × Hp)) (F : Frm) (H : Hp) : AOp → Option Out
  | .mv x => (match evV E F x with | some p => outV p H | none => none)
  | .slcA n esz x => (match ev E F x with | some (.v (.ptr id ext i off)) => if n ≠ 0 ∧ n ≤ 16777216 then outV (.sub id ext i off n esz) H else none | _ => none)
  | .mvD x => (match evV E F x with | some p => (match purify1 H p with | some (.data rows, H') => outV (.data rows) H' | _ => none) | none => none)
  | .pick c a b =>
    (match evV E F c with
     | some (.bool true) => (match evV E F a with | some p => outV p H | none => none)
     | some (.bool false) => (match evV E F b with | some p => outV p H | none => none)
     | _ => none)
  | .allocL z => some ⟨some (.box z), none, H⟩
  | .boxL x => (match evV E F x with | some p => if allOne p.cells = true then some ⟨some (.box p), none, H⟩ else none | none => none)
  | .allocH pu esz z => some ⟨some (.v (.ptr H.length 1 0 0)), none, H ++ [⟨false, pu, esz, [z]⟩]⟩
  | .boxH pu esz x =>
    (match evV E F x with
     | some p => (match (if pu then purify H p else some (p, H)) with
       | some (q, H') => if q.cells.length = esz ∧ allOne q.cells = true then some ⟨some (.v (.ptr H'.length 1 0 0)), none, H' ++ [⟨false, pu, esz, [q]⟩]⟩ else none
       | none => none)
     | none => none)
  | .build z parts => (match fillP E F z parts with | some cs => outV (.agg cs) H | none => none)
  | .buildSl pu esz z len parts =>
    if len = 0 then outV .emp H else
    (match fillR E F pu esz (List.replicate len z) H parts with
     | some (rows, H') => outV (.own H'.length 0 len len (some len)) (H' ++ [⟨false, pu, esz, rows⟩])
     | none => none)
  | .buildN pu esz z len parts =>
    if len = 0 then outV .emp H else
    (match fillR E F pu esz (List.replicate len z) H parts with
     | some (rows, H') => outV (.own H'.length 0 len len none) (H' ++ [⟨false, pu, esz, rows⟩])
     | none => none)
  | .buildD esz z len parts =>
    if len = 0 then outV .emp H else
    (match fillR E F true esz (List.replicate len z) H parts with
     | some (rows, H') => outV (.data rows) H'
     | none => none)
  | .load agg sz a =>
    (match ev E F a with
     | some (.bp s off) => (match fget F s with
       | some (.box row) => (match partOf agg sz row off with | some p => outV p H | none => none)
       | _ => none)
     | some (.v (.eptr rows i off)) => (match rows[i]? with
       | some row => (match partOf agg sz row off with | some p => outV p H | none => none)
       | none => none)
     | some (.v (.ptr id ext i off)) => (match H[id]? with
       | some b => if b.rows.length = ext then (match b.rows[i]? with
           | some row => (match partOf agg sz row off with | some p => outV p H | none => none)
           | none => none) else none
       | none => none)
     | _ => none)
  | .store sz a x =>
    (match evV E F x with
     | some p =>
       (match ev E F a with
        | some (.bp s off) => (match fget F s with
          | some (.box row) => (match setPart row off sz p with | some row' => some ⟨none, some (s, row'), H⟩ | none => none)
          | _ => none)
        | some (.v (.ptr id ext i off)) =>
          (match H[id]? with
           | some b0 =>
             (match (if b0.pu then purify H p else some (p, H)) with
              | some (q, H') => (match H'[id]? with
                | some b => if b.rows.length = ext ∧ b.fz = false then (match b.rows[i]? with
                    | some row => (match setPart row off sz q with
                      | some row' => some ⟨none, none, H'.set id { b with rows := b.rows.set i row' }⟩
                      | none => none)
                    | none => none) else none
                | none => none)
              | none => none)
           | none => none)
        | _ => none)
     | none => none)
  | .bin op x y => (match evV E F x, evV E F y with | some a, some b => (match binV op a b with | some r => outV r H | none => none) | _, _ => none)
  | .eqB neg x y => (match evV E F x, evV E F y with | some (.bool a), some (.bool b) => outV (.bool (if neg then a != b else a == b)) H | _, _ => none)
  | .eqA neg sz idx x y =>
    (match evV E F x, evV E F y with
     | some (.agg a), some (.agg b) => if a.length = sz ∧ b.length = sz then (match eqL a b idx with | some r => outV (.bool (if neg then !r else r)) H | none => none) else none
     | _, _ => none)
  | .eqN neg x =>
    (match evV E F x with
     | some .nils => outV (.bool (if neg then false else true)) H
     | some (.mt b) => outV (.bool (if neg then !b else b)) H
     | some (.data (_ :: _)) | some (.own _ _ _ _ _) => outV (.bool (if neg then true else false)) H
     | _ => none)
  | .un op x => (match evV E F x with | some a => (match unV op a with | some r => outV r H | none => none) | none => none)
  | .conv k x => (match evV E F x with | some (.int _ n) => outV (.int k (k.wrap n)) H | _ => none)
  | .mkFn f first captured =>
    (match evs E F first, evs E F captured with
     | some a, some b => outV (.fn f a b) H
     | _, _ => none)
  | .mkSl pu esz bytes z l c =>
    (match evInt E F l, evInt E F c with
     | some l, some c => if 0 ≤ l ∧ l ≤ c ∧ (c.toNat + 64) * (bytes + 1) ≤ room then outV (.own H.length 0 l.toNat c.toNat (some c.toNat)) (H ++ [⟨false, pu, esz, List.replicate c.toNat z⟩]) else none
     | _, _ => none)
  | .slc esz x lo hi mx =>
    (match evV E F x, evO E F lo, evO E F hi, evO E F mx with
     | some p, some l, some h, some m => if m.isSome && h.isNone then none else (match sliceV H esz l h m p with | some r => outV r H | none => none)
     | _, _, _, _ => none)
  | .fad off x =>
    (match ev E F x with
     | some (.bp s o) => some ⟨some (.bp s (o + off)), none, H⟩
     | some (.v (.ptr id e i o)) => outV (.ptr id e i (o + off)) H
     | some (.v (.eptr rows i o)) => outV (.eptr rows i (o + off)) H
     | _ => none)
  | .fld agg sz off x => (match evV E F x with | some (.agg cs) => (match partOf agg sz (.agg cs) off with | some p => outV p H | none => none) | _ => none)
  | .iad esz x i =>
    (match evV E F x, evInt E F i with
     | some (.data rows), some n => if 0 ≤ n ∧ n < rows.length then (match rows[n.toNat]? with
         | some row => if row.cells.length = esz then outV (.eptr [row] 0 0) H else none
         | none => none) else none
     | some (.own id lo len ext _), some n => if 0 ≤ n ∧ n < len then (match H[id]? with
         | some b => if b.esz = esz then outV (.ptr id ext (lo + n.toNat) 0) H else none
         | none => none) else none
     | some (.sub id ext r off m e), some n => if 0 ≤ n ∧ n < m ∧ e = esz then outV (.ptr id ext r (off + n.toNat * esz)) H else none
     | _, _ => none)
  | .iadA n esz x i =>
    (match ev E F x, evInt E F i with
     | some (.bp s o), some j => if 0 ≤ j ∧ j < n then some ⟨some (.bp s (o + j.toNat * esz)), none, H⟩ else none
     | some (.v (.ptr id e r o)), some j => if 0 ≤ j ∧ j < n then outV (.ptr id e r (o + j.toNat * esz)) H else none
     | some (.v (.eptr rows r o)), some j => if 0 ≤ j ∧ j < n then outV (.eptr rows r (o + j.toNat * esz)) H else none
     | _, _ => none)
  | .idx agg n esz x i =>
    (match evV E F x, evInt E F i with
     | some (.agg cs), some j => if 0 ≤ j ∧ j < n then (match partOf agg esz (.agg cs) (j.toNat * esz) with | some p => outV p H | none => none) else none
     | _, _ => none)
  | .ext x i => (match evV E F x with | some (.tup vs) => (match vs[i]? with | some p => outV p H | none => none) | _ => none)
  | .call f args =>
    (match evV E F f, evs E F args with
     | some g, some as => (match callV E call g as H with | some (r, H') => outV r H' | none => none)
     | _, _ => none)
  | .len x => (match evV E F x with | some p => (match lenV p with | some n => outV (.int .i64 n) H | none => none) | none => none)
  | .cap x => (match evV E F x with | some p => (match capV p with | some n => outV (.int .i64 n) H | none => none) | none => none)
  | .app pu esz bytes s x =>
    (match evV E F s, evV E F x with
     | some a, some b => (match appV H pu esz bytes a b with | some (r, H') => outV r H' | none => none)
     | _, _ => none)
  | .appZ pu esz bytes z s n =>
    (match evV E F s, evInt E F n with
     | some a, some k => if 0 ≤ k then (match appZ H pu esz bytes z a k.toNat with | some (r, H') => outV r H' | none => none) else none
     | _, _ => none)
  | .clr pu esz z x =>
    (match evV E F x with
     | some a => (match clrV H pu esz z a with | some H' => outV (.tup []) H' | none => none)
     | _ => none)
  | .minmax mx l => (match evs E F l with | some (p :: ps) => (match minmaxV mx p ps with | some r => outV r H | none => none) | _ => none)
  | .nilchk x =>
    (match ev E F x with
     | some (.bp s o) => some ⟨some (.bp s o), none, H⟩
     | some (.v (.ptr a b c d)) => outV (.ptr a b c d) H
     | some (.v (.eptr a b c)) => outV (.eptr a b c) H
     | some (.v (.fn (.func f) a b)) => outV (.fn (.func f) a b) H
     | _ => none)
  | .dfr n => if E.dn n then outV (.tup []) H else none
  | .bad => none

end Go.Pf
