/- The framework, part 8: the model's code is brought into the small code. -/
import Derived.Test.YthlajkcfbpfmdaaFw1
import GoSem.Core.Layout
import GoSem.Op.Equal
import GoSem.ClaimKeys
namespace Go.Pf
open Go

def cellConst : Value → Option PV
  | .bool b => some (.bool b)
  | .int k n => if k.min ≤ n ∧ n ≤ k.max then some (.int k n) else none
  | .slice none 0 0 => some .nils
  | .pointer none => some .nilp
  | .nilFunc => some .nilf
  | _ => none

def cellsConst : List Value → Option (List PV)
  | [] => some []
  | v :: r => match cellConst v, cellsConst r with
    | some x, some l => some (x :: l)
    | _, _ => none

def pvConst : Value → Option PV
  | .agg cs => (match cellsConst cs.toList with | some l => some (.agg l) | none => none)
  | v => cellConst v

/-- Nil slices as data. -/
def dataNil : PV → PV
  | .nils => .data []
  | x => x
def dataNils : PV → PV
  | .agg l => .agg (l.map dataNil)
  | x => dataNil x
def pureCell : PV → Bool
  | .bool _ | .int _ _ | .data _ => true
  | _ => false
def pureRow : PV → Bool
  | .agg l => l.all pureCell
  | x => pureCell x

def isAggB (P : Program) (t : TypeId) : Option Bool :=
  match P.underlying t with
  | some (.struct _) | some (.array _ _) => some true
  | some _ => some false
  | none => none

/-- The size of a type, greater than 0. -/
def sizeB (P : Program) (t : TypeId) : Option Nat :=
  match P.info? t with
  | some i => if 0 < i.size then some i.size else none
  | none => none

def bytesB (P : Program) (t : TypeId) : Option Nat :=
  match P.info? t with
  | some i => some i.bytes
  | none => none

/-- The zero value of a type; its row in a block of pure data, or of any. -/
def zeroB (P : Program) (t : TypeId) : Option PV :=
  match P.info? t with
  | some i => (match i.zero with
    | some z => (match pvConst z with | some p => if p.cells.length = i.size then some p else none | none => none)
    | none => none)
  | none => none

def zeroRow (P : Program) (t : TypeId) (np : Bool := false) : Option (Bool × PV) :=
  match zeroB P t with
  | some p => some (if pureRow (dataNils p) && !np then (true, dataNils p) else (false, p))
  | none => none

def opd : Operand → Option Opd
  | .tmp t => some (.t t)
  | .const v => (match pvConst v with | some p => some (.c p) | none => none)
  | .global g => some (.g g)
  | .func f => some (.f f)

def opds : List Operand → Option (List Opd)
  | [] => some []
  | x :: r => match opd x, opds r with
    | some a, some l => some (a :: l)
    | _, _ => none

def opdO : Option Operand → Option (Option Opd)
  | none => some none
  | some x => match opd x with | some a => some (some a) | none => none

def partsS (P : Program) (fs : Array Field) : List (Nat × Operand) → Option (List (Nat × Nat × Opd))
  | [] => some []
  | (i, x) :: r => match fs[i]?, opd x, partsS P fs r with
    | some f, some a, some l => (match P.info? f.type with | some j => some ((f.offset, j.size, a) :: l) | none => none)
    | _, _, _ => none

def partsA (sz : Nat) : List (Nat × Operand) → Option (List (Nat × Nat × Opd))
  | [] => some []
  | (i, x) :: r => match opd x, partsA sz r with
    | some a, some l => some ((i * sz, sz, a) :: l)
    | _, _ => none

def partsR : List (Nat × Operand) → Option (List (Nat × Opd))
  | [] => some []
  | (i, x) :: r => match opd x, partsR r with
    | some a, some l => some ((i, a) :: l)
    | _, _ => none

/-- The cells of a type that is compared cell by cell: where each one lies, and its kind. -/
def flatFs (P : Program) (sz : Nat) (rc : TypeId → Nat → Option (List (Nat × Option IntKind))) : List Field → Nat → Option (List (Nat × Option IntKind))
  | [], _ => some []
  | f :: r, off => if f.offset + P.cellsOf f.type ≤ sz then (match rc f.type (off + f.offset), flatFs P sz rc r off with
      | some a, some b => some (a ++ b)
      | _, _ => none) else none
def flatA (z : Nat) (rc : Nat → Option (List (Nat × Option IntKind))) : Nat → Nat → Option (List (Nat × Option IntKind))
  | 0, _ => some []
  | n + 1, off => match rc off, flatA z rc n (off + z) with
    | some a, some b => some (a ++ b)
    | _, _ => none
def flatT (P : Program) : Nat → TypeId → Nat → Option (List (Nat × Option IntKind))
  | 0, _, _ => none
  | d + 1, t, off =>
    match P.underlying t with
    | some .bool => if P.cellsOf t = 1 then some [(off, none)] else none
    | some (.int q) => if P.cellsOf t = 1 then some [(off, some q)] else none
    | some (.struct fs) => if fs.all (·.name != "_") = true then flatFs P (P.cellsOf t) (flatT P d) fs.toList off else none
    | some (.array n e) => if n * P.cellsOf e ≤ P.cellsOf t then flatA (P.cellsOf e) (flatT P d e) n off else none
    | _ => none

def isShift : BinOp → Bool
  | .shl | .shr => true
  | _ => false

def isNilC : Operand → Bool
  | .const (.slice none 0 0) => true
  | _ => false

def compBin (P : Program) (op : BinOp) (t : TypeId) (x y : Operand) : AOp :=
  match opd x, opd y with
  | some a, some b =>
    (match P.underlying t with
     | some (.int _) => .bin op a b
     | some .bool => (match op with | .eql => .eqB false a b | .neq => .eqB true a b | _ => .bad)
     | some (.struct _) => (match flatT P 12 t 0 with
       | some idx => if P.keyTypeAt 8 t && !P.eqGuardType P.depth t then (match op with | .eql => .eqA false (P.cellsOf t) idx a b | .neq => .eqA true (P.cellsOf t) idx a b | _ => .bad) else .bad
       | none => .bad)
     | some (.array _ _) => (match flatT P 12 t 0 with
       | some idx => if P.keyTypeAt 8 t && !P.eqGuardType P.depth t then (match op with | .eql => .eqA false (P.cellsOf t) idx a b | .neq => .eqA true (P.cellsOf t) idx a b | _ => .bad) else .bad
       | none => .bad)
     | some (.slice _) => (match op with
       | .eql => if isNilC y then .eqN false a else if isNilC x then .eqN false b else .bad
       | .neq => if isNilC y then .eqN true a else if isNilC x then .eqN true b else .bad
       | _ => .bad)
     | _ => .bad)
  | _, _ => .bad

def compBuiltin (P : Program) (b : Builtin) (ts : Array TypeId) (args : List Operand) : AOp :=
  match b, opds args with
  | .len, some [x] => (match (ts[0]?).bind P.underlying with | some (.slice _) => .len x | _ => .bad)
  | .cap, some [x] => (match (ts[0]?).bind P.underlying with | some (.slice _) => .cap x | _ => .bad)
  | .append, some [s, x] =>
    (match ts.toList with
     | [t, t'] => if t = t' then (match P.underlying t with
         | some (.slice e) => (match sizeB P e, bytesB P e, zeroRow P e with
           | some sz, some by_, some (pu, _) => .app pu sz by_ s x
           | _, _, _ => .bad)
         | _ => .bad) else (match P.underlying t, P.underlying t' with
         | some (.slice e), some (.int _) => (match sizeB P e, bytesB P e, zeroRow P e with
           | some sz, some by_, some (pu, z) => .appZ pu sz by_ z s x
           | _, _, _ => .bad)
         | _, _ => .bad)
     | _ => .bad)
  | .clear, some [x] =>
    (match ts[0]? with
     | some t => (match P.underlying t with
       | some (.slice e) => (match sizeB P e, zeroRow P e with
         | some sz, some (pu, z) => .clr pu sz z x
         | _, _ => .bad)
       | _ => .bad)
     | none => .bad)
  | .max, some l => .minmax true l
  | .min, some l => .minmax false l
  | _, _ => .bad

/-- The bytes of a constant string. -/
def strOf : Operand → Option (List PV)
  | .const (.string s) => some (s.data.toList.map fun b => PV.int .u8 b.toNat)
  | _ => none

def locHas (loc : List Nat) : Option Nat → Bool
  | some d => loc.contains d
  | none => false

/-- The slots whose blocks may hold slices that others write: named so far up. -/
def locFar : Nat := 1000000
/-- The slots that take a slice as data: named so far up. -/
def locData : Nat := 4000000
/-- Slices that are made as data: a known length, marked by slot + 5000000. -/
def mkDL (loc : List Nat) (dst : Option Nat) (pu : Bool) (sz by_ : Nat) : Opd → Opd → Option Nat
  | .c (.int .i64 n), .c (.int .i64 m) => if locHas loc (dst.map (· + 5000000)) = true ∧ pu = true ∧ 0 < n ∧ n = m ∧ n.toNat * sz ≤ 2 ^ 24 ∧ (n.toNat + 64) * (by_ + 1) ≤ 35184372088832 then some n.toNat else none
  | _, _ => none
/-- One operation; 'loc': the slots that hold variables of the frame alone. -/
def compOp (P : Program) (loc : List Nat) (o : Oper) : AOp :=
  match o.op with
  | .move x | .assign x => (match opd x with | some a => if locHas loc (o.dst.map (· + locData)) = true then .mvD a else .mv a | none => .bad)
  | .pick c a b => (match opd c, opd a, opd b with | some c, some a, some b => .pick c a b | _, _, _ => .bad)
  | .alloc e =>
    (match o.dst with
     | some d => if loc.contains d then (match zeroB P e with | some z => .allocL z | none => .bad)
       else (match zeroRow P e (loc.contains (d + locFar)), sizeB P e with | some (pu, z), some sz => .allocH pu sz z | _, _ => .bad)
     | none => .bad)
  | .box e x =>
    (match o.dst, opd x with
     | some d, some a => if loc.contains d then .boxL a else (match zeroRow P e (loc.contains (d + locFar)), sizeB P e with | some (pu, _), some sz => .boxH pu sz a | _, _ => .bad)
     | _, _ => .bad)
  | .build t parts =>
    (match zeroB P t, P.underlying t with
     | some z, some (.struct fs) => if fs.toList.all (fun f => (P.info? f.type).isSome) then (match partsS P fs parts.toList with | some ps => .build z.cells ps | none => .bad) else .bad
     | some z, some (.array _ e) => (match P.info? e with | some i => (match partsA i.size parts.toList with | some ps => .build z.cells ps | none => .bad) | none => .bad)
     | _, _ => .bad)
  | .buildSlice t len parts =>
    (match P.underlying t with
     | some (.slice e) => (match sizeB P e, zeroRow P e, partsR parts.toList with
       | some sz, some (pu, z), some ps => if len * sz ≤ 2 ^ 24 ∧ (len ≠ 0 ∨ parts.toList.isEmpty = true) then (if pu = true ∧ locHas loc o.dst = true then .buildD sz z len ps else if locHas loc (o.dst.map (· + 2000000)) = true then .buildN pu sz z len ps else .buildSl pu sz z len ps) else .bad
       | _, _, _ => .bad)
     | _ => .bad)
  | .load t a => (match isAggB P t, P.info? t, opd a with | some g, some i, some x => .load g i.size x | _, _, _ => .bad)
  | .store t a v => (match P.info? t, opd a, opd v with | some i, some x, some y => .store i.size x y | _, _, _ => .bad)
  | .nilCheck x => (match opd x with | some a => .nilchk a | none => .bad)
  | .defer c => (match o.dst, c.callee with | none, .value (.func n) => .dfr n | _, _ => .bad)
  | .binOp op t x y _ => compBin P op t x y
  | .unOp op _ x => (match opd x with | some a => .un op a | none => .bad)
  | .convert s d x =>
    (match P.underlying s, P.underlying d, opd x with
     | some _, some (.int k), some a => .conv k a
     | _, _, _ => .bad)
  | .makeFunc f a b => (match f, opds a.toList, opds b.toList with | .func n, some a, some b => .mkFn (.func n) a b | _, _, _ => .bad)
  | .makeSlice t l c =>
    (match P.underlying t, opd l, opd c with
     | some (.slice e), some l, some c => (match sizeB P e, bytesB P e, zeroRow P e (locHas loc (o.dst.map (· + locFar))) with
       | some sz, some by_, some (pu, z) => (match mkDL loc o.dst pu sz by_ l c with | some n => .buildD sz z n [] | none => .mkSl pu sz by_ z l c)
       | _, _, _ => .bad)
     | _, _, _ => .bad)
  | .slice t x lo hi mx =>
    (match P.underlying t, opd x, opdO lo, opdO hi, opdO mx with
     | some (.slice e), some a, some l, some h, some m => (match sizeB P e with | some sz => .slc sz a l h m | none => .bad)
     | some (.array n e), some a, some none, some none, some none => (match sizeB P e with | some sz => .slcA n sz a | none => .bad)
     | _, _, _, _, _ => .bad)
  | .fieldAddr s x f =>
    (match P.underlying s, opd x with
     | some (.struct fs), some a => (match fs[f]? with
       | some fl => (match sizeB P fl.type with | some _ => .fad fl.offset a | none => .bad)
       | none => .bad)
     | _, _ => .bad)
  | .field t x f =>
    (match P.underlying t, opd x with
     | some (.struct fs), some a => (match fs[f]? with
       | some fl => (match isAggB P fl.type, P.info? fl.type with | some g, some i => .fld g i.size fl.offset a | _, _ => .bad)
       | none => .bad)
     | _, _ => .bad)
  | .indexAddr t x i =>
    (match P.underlying t, opd x, opd i with
     | some (.slice e), some a, some b => (match sizeB P e with | some sz => .iad sz a b | none => .bad)
     | some (.array n e), some a, some b => (match sizeB P e with | some sz => .iadA n sz a b | none => .bad)
     | _, _, _ => .bad)
  | .index t x i =>
    (match P.underlying t, opd x, opd i with
     | some (.array n e), some a, some b => (match isAggB P e, P.info? e with | some g, some j => .idx g n j.size a b | _, _ => .bad)
     | some .string, _, some b => (match strOf x with | some l => .idx false l.length 1 (.c (.agg l)) b | none => .bad)
     | _, _, _ => .bad)
  | .extract x i => (match opd x with | some a => .ext a i | none => .bad)
  | .call c =>
    (match c.callee with
     | .value f => (match opd f, opds c.args.toList with | some f, some as => .call f as | _, _ => .bad)
     | .builtin b => compBuiltin P b c.argTypes c.args.toList
     | .invoke _ _ => .bad)
  | _ => .bad



def edgesOf (o : Oper) : List Nat := o.after.toList.filterMap fun e => match e.ground with | .textOnly _ | .gcOnly _ => none | _ => some e.on

/-- The closure of the edges, op by op: bit i of the entry j says that i comes before j. -/
def closeB : List Oper → List Nat → List Nat
  | [], acc => acc
  | o :: r, acc => closeB r (acc ++ [(edgesOf o).foldl (fun s i => s ||| 2 ^ i ||| acc.getD i 0) 0])

/-- The pairs that no edges order. -/
def freePairs (cl : List Nat) : List (Nat × Nat) :=
  (List.range cl.length).flatMap fun j => (List.range j).filterMap fun i => if (cl.getD j 0).testBit i then none else some (i, j)

def edgesBack (ops : List Oper) : Bool := (List.range ops.length).all fun j => match ops[j]? with | some o => (edgesOf o).all (· < j) | none => true

def compOps (P : Program) (loc : List Nat) (all : Array Oper) : List Oper → Option (List AOper)
  | [] => some []
  | o :: r => match compOps P loc all r with
    | some l => (match o.guard with
      | none => some (⟨o.dst, compOp P loc o, none⟩ :: l)
      | some (j, want) => (match (all[j]?).bind (·.dst) with
        | some s => some (⟨o.dst, compOp P loc o, some (s, want)⟩ :: l)
        | none => none))
    | none => none

def dstsB (nt : Nat) : List Oper → Bool
  | [] => true
  | o :: r => (match o.dst with | some d => decide (d < nt) | none => true) && dstsB nt r

/-- A deferral. -/
def hasD : List Oper → Bool
  | [] => false
  | o :: r => (match o.op with | .defer _ => true | _ => false) || hasD r
/-- Code; 'fg': the slots that are forgotten behind a region. -/
def compReg (P : Program) (loc : List Nat) (fg : Nat → List Nat) (nt : Nat) (inR : Bool) (id : Nat) (ops : Array Oper) (draw : Bool) : ACode :=
  if inR && hasD ops.toList then .bad else
  match compOps P loc ops ops.toList with
  | some l => if dstsB nt ops.toList then
      (if draw then (if edgesBack ops.toList then .ops l (freePairs (closeB ops.toList [])) (fg id) else .bad)
       else .ops l [] (fg id)) else .bad
  | none => .bad
/-- A region that ends with a call, and the denial of its answer, behind which the function returns: what a yield of a loop that is left looks like. -/
def yretOf (P : Program) (loc : List Nat) (fg : Nat → List Nat) (nt : Nat) (inR : Bool) (id : Nat) (ops : Array Oper) (c : ACode) (e : Nat) : Option ACode :=
  if inR && hasD ops.toList then none else
  match compOps P loc ops ops.toList with
  | some l => if dstsB nt ops.toList then
    (match l.drop (l.length - 2) with
     | [⟨some d, .call y args, none⟩, ⟨some e', .un .not (.t d'), none⟩] => if d' = d ∧ e' = e ∧ d ≠ e then some (.yret c (l.take (l.length - 2)) d y args e (fg id)) else none
     | _ => none) else none
  | none => none
def compCode (P : Program) (loc : List Nat) (fg : Nat → List Nat) (nt : Nat) (inR : Bool) : Code → ACode
  | .skip => .skip
  | .region id ops draw => compReg P loc fg nt inR id ops draw
  | .seq a b =>
    (match a, b with
     | .region id ops false, .cond (.tmp e) .ret .skip =>
       (match yretOf P loc fg nt inR id ops (.seq (compReg P loc fg nt inR id ops false) (.cond (.t e) .ret .skip)) e with
        | some c => c
        | none => .seq (compReg P loc fg nt inR id ops false) (.cond (.t e) .ret .skip))
     | _, _ => .seq (compCode P loc fg nt inR a) (compCode P loc fg nt inR b))
  | .cond c a b => (match opd c with | some x => .cond x (compCode P loc fg nt inR a) (compCode P loc fg nt inR b) | none => .bad)
  | .block id b => .block id (compCode P loc fg nt inR b)
  | .loop b => (match fg 999999 with | [] => .loop (compCode P loc fg nt inR b) | _ :: _ => .loopG (compCode P loc fg nt inR b))
  | .scope b => compCode P loc fg nt inR b
  | .rangeFunc g ps as b => (match opd g with
    | some x => if inR then .bad else if ps.toList.all (fun p => decide (p < nt)) then .rangeF x ps.toList (compCode P loc fg nt true as) (compCode P loc fg nt true b) else .bad
    | none => .bad)
  | .exit id => .exit id
  | .label _ => .skip
  | .ret => .ret
  | _ => .bad

def compRes (P : Program) : List ResultVar → Option (List ARes)
  | [] => some []
  | .tmp t :: r => (match compRes P r with | some l => some (.tmp t :: l) | none => none)
  | .cell a t :: r => (match isAggB P t, P.info? t, compRes P r with | some g, some i, some l => some (.cell a g i.size :: l) | _, _, _ => none)

def compFn (P : Program) (loc : List Nat) (fg : Nat → List Nat) (f : Func) : Option AFn :=
  match f.body, compRes P f.results.toList with
  | some c, some rs => if f.name == "runtime.NumGoroutine" then none else some ⟨f.params.size + f.nfree, rs, compCode P loc fg f.ntmps false c⟩
  | _, _ => none

end Go.Pf
