/- The framework, part 2: the evaluator of the small code, with fuel, and what more fuel does. -/
import Derived.Test.YthlajkcfbpfmdaaFw1
namespace Go.Pf

def guardOk (F : Frm) : Option (Nat × Bool) → Option Bool
  | none => some true
  | some (s, want) => match fget F s with
    | some (.v (.bool b)) => some (b == want)
    | some (.v (.tup [])) => some false
    | _ => none

/-- No slot points into the variable of a slot. -/
def noBp : Frm → Nat → Bool
  | [], _ => true
  | (_, .bp s _) :: r, d => !(s == d) && noBp r d
  | (_, .v _) :: r, d => noBp r d
  | (_, .box _) :: r, d => noBp r d

/-- Pointers into a variable are forgotten. -/
def delBp : Frm → Nat → Frm
  | [], _ => []
  | (k, x) :: r, d => (match x with
    | .bp s _ => if s = d then fdel (delBp r d) k else (k, x) :: delBp r d
    | _ => (k, x) :: delBp r d)

def putDst (F : Frm) : Option Nat → Option FV → Option Frm
  | some d, some (.box row) => some (fset (delBp F d) d (.box row))
  | some d, some (.v p) => some (fset F d (.v p))
  | some d, some (.bp s o) => some (fset F d (.bp s o))
  | some d, none => some (fdel F d)
  | none, some (.box _) => none
  | none, _ => some F

def putBx (F : Frm) : Option (Nat × PV) → Frm
  | some (s, row) => fset F s (.box row)
  | none => F

def stepOp (E : Env) (call : Nat → List PV → Hp → Option (PV × Hp)) (F : Frm) (H : Hp) (o : AOper) : Option (Frm × Hp) :=
  match guardOk F o.guard with
  | none => none
  | some false => (match o.dst with | some d => some (fset F d (.v (.tup [])), H) | none => some (F, H))
  | some true =>
    match opOut E call F H o.op with
    | none => none
    | some ⟨x, bx, H'⟩ => (putDst (putBx F bx) o.dst x).map fun F' => (F', H')

def runOps (E : Env) (call : Nat → List PV → Hp → Option (PV × Hp)) : List AOper → Frm → Hp → Option (Frm × Hp)
  | [], F, H => some (F, H)
  | o :: r, F, H => match stepOp E call F H o with
    | some (F', H') => runOps E call r F' H'
    | none => none

/-- The same, where nobody knows of the variable ahead. -/
def putDstU (F : Frm) : Option Nat → Option FV → Option Frm
  | some d, some fv => some (fset F d fv)
  | some d, none => some (fdel F d)
  | none, some (.box _) => none
  | none, _ => some F

def stepU (E : Env) (call : Nat → List PV → Hp → Option (PV × Hp)) (o : AOper) (S : Frm × Hp) : Option (Frm × Hp) :=
  match guardOk S.1 o.guard with
  | none => none
  | some false => (match o.dst with | some d => some (fset S.1 d (.v (.tup [])), S.2) | none => some S)
  | some true =>
    match opOut E call S.1 S.2 o.op with
    | none => none
    | some ⟨x, bx, H'⟩ => (putDstU (putBx S.1 bx) o.dst x).map fun F' => (F', H')

/-! What an operation touches. -/

structure FP where
  rd : List Nat
  wr : List Nat
  hr : List Nat
  hw : List Nat
  push : Bool
  all : Bool
  deriving Inhabited

def Opd.slots : Opd → List Nat
  | .t s => [s]
  | _ => []
def slotsO : Option Opd → List Nat
  | some x => x.slots
  | none => []
def slotsL : List Opd → List Nat
  | [] => []
  | x :: r => x.slots ++ slotsL r
def slotsP : List (Nat × Nat × Opd) → List Nat
  | [] => []
  | (_, _, x) :: r => x.slots ++ slotsP r
def slotsR : List (Nat × Opd) → List Nat
  | [] => []
  | (_, x) :: r => x.slots ++ slotsR r

def ids1 : PV → List Nat
  | .own id _ _ _ _ => [id]
  | .ptr id _ _ _ => [id]
  | .sub id _ _ _ _ _ => [id]
  | _ => []
def idsL : List PV → List Nat
  | [] => []
  | x :: r => ids1 x ++ idsL r
def idsV : PV → List Nat
  | .agg cs => idsL cs
  | x => ids1 x
def idsA : List PV → List Nat
  | [] => []
  | x :: r => idsV x ++ idsA r
def isFn : PV → Bool
  | .fn _ _ _ => true
  | _ => false
def anyFn : List PV → Bool
  | [] => false
  | x :: r => isFn x || anyFn r

def idsOpd (E : Env) (F : Frm) (x : Opd) : List Nat :=
  match ev E F x with
  | some (.v p) => idsV p
  | _ => []
def idsOpds (E : Env) (F : Frm) : List Opd → List Nat
  | [] => []
  | x :: r => idsOpd E F x ++ idsOpds E F r
def idsParts (E : Env) (F : Frm) : List (Nat × Opd) → List Nat
  | [] => []
  | (_, x) :: r => idsOpd E F x ++ idsParts E F r
def bpOpd (E : Env) (F : Frm) (x : Opd) : List Nat :=
  match ev E F x with
  | some (.bp s _) => [s]
  | _ => []

/-- A call that a summary answers, of data that no block of the evaluator bears. -/
def quietCall (E : Env) (F : Frm) (f : Opd) (as : List Opd) : Bool :=
  match evV E F f, evs E F as with
  | some (.fn (.func n) first captured), some vs => !E.rb n && ((idsA (first ++ vs ++ captured)).isEmpty && (E.qui n || (match purifyAll [] (first ++ vs ++ captured) with | some (ps, _) => (E.sum n ps).isSome | none => false)))
  | _, _ => false

def fpOp (E : Env) (F : Frm) (H : Hp) : AOp → FP
  | .mv x | .eqN _ x | .un _ x | .conv _ x | .fld _ _ _ x | .ext x _ | .len x | .cap x => ⟨x.slots, [], [], [], false, false⟩
  | .boxL x => ⟨x.slots, [], [], [], false, false⟩
  | .slcA _ _ x => ⟨x.slots, [], [], [], false, false⟩
  | .mvD x => ⟨x.slots, [], [], idsOpd E F x, false, false⟩
  | .pick c a b => ⟨c.slots ++ (a.slots ++ b.slots), [], [], [], false, false⟩
  | .allocL _ => ⟨[], [], [], [], false, false⟩
  | .allocH _ _ _ => ⟨[], [], [], [H.length], true, false⟩
  | .boxH _ _ x => ⟨x.slots, [], [], H.length :: idsOpd E F x, true, false⟩
  | .build _ ps => ⟨slotsP ps, [], [], [], false, false⟩
  | .buildSl _ _ _ len ps => ⟨slotsR ps, [], [], (if len = 0 then [] else H.length :: idsParts E F ps), !(len == 0), false⟩
  | .buildN _ _ _ len ps => ⟨slotsR ps, [], [], (if len = 0 then [] else H.length :: idsParts E F ps), !(len == 0), false⟩
  | .buildD _ _ _ ps => ⟨slotsR ps, [], [], idsParts E F ps, false, false⟩
  | .load _ _ a => ⟨a.slots ++ bpOpd E F a, [], idsOpd E F a, [], false, false⟩
  | .store _ a x => ⟨a.slots ++ (x.slots ++ bpOpd E F a), bpOpd E F a, [], idsOpd E F a ++ idsOpd E F x, false, false⟩
  | .bin _ x y | .eqB _ x y | .eqA _ _ _ x y => ⟨x.slots ++ y.slots, [], [], [], false, false⟩
  | .mkFn _ a b => ⟨slotsL a ++ slotsL b, [], [], [], false, false⟩
  | .mkSl _ _ _ _ l c => ⟨l.slots ++ c.slots, [], [], [H.length], true, false⟩
  | .slc _ x l h m => ⟨x.slots ++ (slotsO l ++ (slotsO h ++ slotsO m)), [], idsOpd E F x, [], false, false⟩
  | .fad _ x => ⟨x.slots ++ bpOpd E F x, [], [], [], false, false⟩
  | .iad _ x i => ⟨x.slots ++ i.slots, [], idsOpd E F x, [], false, false⟩
  | .iadA _ _ x i => ⟨x.slots ++ (i.slots ++ bpOpd E F x), [], [], [], false, false⟩
  | .idx _ _ _ x i => ⟨x.slots ++ i.slots, [], [], [], false, false⟩
  | .call f as => ⟨f.slots ++ slotsL as, [], [], [], !quietCall E F f as, !quietCall E F f as⟩
  | .app _ _ _ s x => ⟨s.slots ++ x.slots, [], [], H.length :: (idsOpd E F s ++ idsOpd E F x), true, false⟩
  | .appZ _ _ _ _ s n => ⟨s.slots ++ n.slots, [], [], [H.length], true, false⟩
  | .clr _ _ _ x => ⟨x.slots, [], [], idsOpd E F x, false, false⟩
  | .minmax _ l => ⟨slotsL l, [], [], [], false, false⟩
  | .nilchk x => ⟨x.slots ++ bpOpd E F x, [], [], [], false, false⟩
  | .dfr _ => ⟨[], [], [], [], false, false⟩
  | .bad => ⟨[], [], [], [], true, true⟩

def gSlots : Option (Nat × Bool) → List Nat
  | some (s, _) => [s]
  | none => []

def fpOper (E : Env) (F : Frm) (H : Hp) (o : AOper) : FP :=
  match guardOk F o.guard with
  | some true => let p := fpOp E F H o.op; ⟨gSlots o.guard ++ p.rd, o.dst.toList ++ p.wr, p.hr, p.hw, p.push, p.all⟩
  | _ => ⟨gSlots o.guard, o.dst.toList, [], [], false, false⟩

def meets : List Nat → List Nat → Bool
  | [], _ => false
  | x :: r, l => l.elem x || meets r l

def FP.heapy (p : FP) : Bool := p.push || p.all || !p.hr.isEmpty || !p.hw.isEmpty

def clash (p q : FP) : Bool :=
  meets p.wr q.rd || meets p.wr q.wr || meets q.wr p.rd ||
  (p.all && q.heapy) || (q.all && p.heapy) || (p.push && q.push) || meets p.hw q.hr || meets p.hw q.hw || meets q.hw p.hr

def eqFn : Fn → Fn → Bool
  | .func n, .func m => n == m
  | .yield n, .yield m => n == m
  | f, g => decide (f = g)
mutual
/-- Surely the same. -/
def eqP : PV → PV → Bool
  | .bool a, .bool b => a == b
  | .int k a, .int q b => k == q && a == b
  | .nilp, .nilp => true
  | .ptr a b c d, .ptr a' b' c' d' => a == a' && (b == b' && (c == c' && d == d'))
  | .eptr r i o, .eptr r' i' o' => eqPL r r' && (i == i' && o == o')
  | .nils, .nils => true
  | .emp, .emp => true
  | .mt a, .mt b => a == b
  | .data r, .data r' => eqPL r r'
  | .own a b c d e, .own a' b' c' d' e' => a == a' && (b == b' && (c == c' && (d == d' && e == e')))
  | .sub a b c d e f, .sub a' b' c' d' e' f' => a == a' && (b == b' && (c == c' && (d == d' && (e == e' && f == f'))))
  | .fn f a b, .fn g a' b' => eqFn f g && (eqPL a a' && eqPL b b')
  | .nilf, .nilf => true
  | .agg a, .agg b => eqPL a b
  | .tup a, .tup b => eqPL a b
  | _, _ => false
def eqPL : List PV → List PV → Bool
  | [], [] => true
  | x :: a, y :: b => eqP x y && eqPL a b
  | _, _ => false
end
def eqHB (a b : HB) : Bool := a.fz == b.fz && (a.pu == b.pu && (a.esz == b.esz && eqPL a.rows b.rows))
/-- Blocks that are not surely the same. -/
def chgH0 : Nat → Hp → List Nat
  | _, [] => []
  | i, _ :: s => i :: chgH0 (i + 1) s
def chgH : Nat → Hp → Hp → List Nat
  | i, [], l => chgH0 i l
  | i, a :: r, l => (match l with
    | b :: s => if eqHB a b then chgH (i + 1) r s else i :: chgH (i + 1) r s
    | [] => i :: chgH (i + 1) r [])
/-- Of a call: it reads all; it writes what is not as it was. -/
def FP.tight (p : FP) (H H1 : Hp) : FP :=
  if p.all then ⟨p.rd, p.wr, List.range H.length, chgH 0 H H1, true, false⟩ else p

/-- The operations run, and what each one touched. -/
def runFps (E : Env) (call : Nat → List PV → Hp → Option (PV × Hp)) : List AOper → Frm → Hp → Option (Frm × Hp × List FP)
  | [], F, H => some (F, H, [])
  | o :: r, F, H => match stepU E call o (F, H) with
    | some (F', H') => (match runFps E call r F' H' with
      | some (F'', H'', l) => some (F'', H'', (fpOper E F H o).tight H H' :: l)
      | none => none)
    | none => none

def apart (l : List FP) : List (Nat × Nat) → Bool
  | [] => true
  | (i, j) :: r => (match l[i]?, l[j]? with | some p, some q => !clash p q | _, _ => false) && apart l r

/-- The variables that a region makes: nobody knows of them ahead, and each is made once. -/
def boxDst (o : AOper) : Option Nat :=
  match o.op with
  | .allocL _ | .boxL _ => o.dst
  | _ => none
def dstCount (d : Nat) : List AOper → Nat
  | [] => 0
  | o :: r => (if o.dst = some d then 1 else 0) + dstCount d r
def boxesOk (F : Frm) (all : List AOper) : List AOper → Bool
  | [] => true
  | o :: r => (match boxDst o with | some d => noBp F d && (fget F d).isNone && (dstCount d all == 1) | none => true) && boxesOk F all r

/-- What is known of variables that a region makes anew is forgotten. -/
def cleanB (F : Frm) : List AOper → Frm
  | [] => F
  | o :: r => (match boxDst o with | some d => cleanB (fdel (delBp F d) d) r | none => cleanB F r)

def runReg (E : Env) (call : Nat → List PV → Hp → Option (PV × Hp)) (l : List AOper) (pairs : List (Nat × Nat)) (F : Frm) (H : Hp) : Option (Frm × Hp) :=
  match pairs with
  | [] => runOps E call l F H
  | _ :: _ => (match runFps E call l (cleanB F l) H with
    | some (F', H', ps) => if apart ps pairs = true ∧ boxesOk (cleanB F l) l l = true then some (F', H') else none
    | none => none)

/-! Code. -/

inductive Ex where
  | norm
  | exit (id : Nat)
  | ret
  | brk (k id : Nat)
  deriving DecidableEq, Inhabited

def resOf (F : Frm) (H : Hp) : ARes → Option PV
  | .tmp t => (match fget F t with | some (.v p) => some p | _ => none)
  | .cell a agg sz => (match fget F a with
    | some (.box row) => partOf agg sz row 0
    | some (.v (.ptr id ext i off)) => (match H[id]? with
      | some b => if b.rows.length = ext then (match b.rows[i]? with | some row => partOf agg sz row off | none => none) else none
      | none => none)
    | _ => none)

def ressOf (F : Frm) (H : Hp) : List ARes → Option (List PV)
  | [] => some []
  | x :: r => match resOf F H x with
    | some p => (match ressOf F H r with | some ps => some (p :: ps) | none => none)
    | none => none

def packed : List PV → PV
  | [x] => x
  | l => .tup l

def frame0 : Nat → List PV → Frm
  | _, [] => []
  | i, x :: r => (i, .v x) :: frame0 (i + 1) r

/-- What a round's frame knows: no variables of the frame, no pointers into them. -/
def noBox : Frm → Frm
  | [] => []
  | (k, .v p) :: r => (k, .v p) :: noBox r
  | (k, _) :: r => fdel (noBox r) k
def setPs : Frm → List Nat → List PV → Option Frm
  | F, [], [] => some F
  | F, s :: r, x :: l => setPs (fset F s (.v x)) r l
  | _, _, _ => none
def Env.push (E : Env) (c : LCtx) (h : Nat → List PV → Hp → Option (Option Nat × Hp)) : Env :=
  { E with yn := E.yn + 1, ctx := fun k => if k = E.yn then some c else E.ctx k, yl := fun y k as H => if k = E.yn then h y as H else E.yl y k as H }
/-- The next range over a function has this number. -/
def Env.ats (E : Env) (y : Nat) : Env := { E with yn := y }
mutual
/-- All functions within, and all blocks that are pointed to. -/
def fnAll (C : Fn → Bool) (I : Nat → Bool) : PV → Bool
  | .fn f a b => C f && (fnAllL C I a && fnAllL C I b)
  | .agg cs => fnAllL C I cs
  | .tup ps => fnAllL C I ps
  | .ptr id _ _ _ => I id
  | .own id _ _ _ _ => I id
  | .sub id _ _ _ _ _ => I id
  | _ => true
def fnAllL (C : Fn → Bool) (I : Nat → Bool) : List PV → Bool
  | [] => true
  | x :: r => fnAll C I x && fnAllL C I r
end
def noY (K : Nat) : Fn → Bool
  | .yield k => !(Nat.beq k K)
  | _ => true
def memB : List Nat → Nat → Bool
  | [], _ => false
  | k :: r, n => bif Nat.beq k n then true else memB r n
def noYH (C : Fn → Bool) (I : Nat → Bool) : Hp → Bool
  | [] => true
  | b :: r => fnAllL C I b.rows && noYH C I r
/-- The blocks that came with a loop and know its yield, or such a block. -/
def badY (K n0 : Nat) (D : List Nat) : Nat → Hp → List Nat
  | _, [] => []
  | i, b :: r => bif Nat.ble n0 i && !(fnAllL (noY K) (fun id => !memB D id) b.rows) then i :: badY K n0 D (i + 1) r else badY K n0 D (i + 1) r
def deadY (K n0 : Nat) (H : Hp) : Nat → List Nat → List Nat
  | 0, D => D
  | n + 1, D => deadY K n0 H n (badY K n0 D 0 H)
def clrD (n0 : Nat) (D : List Nat) : Nat → Hp → Hp
  | _, [] => []
  | i, b :: r => (bif Nat.ble n0 i && memB D i then ⟨b.fz, b.pu, b.esz, []⟩ else b) :: clrD n0 D (i + 1) r
/-- What a loop leaves of the heap: blocks that know its yield are forgotten. -/
def clrY (K n0 : Nat) (H : Hp) : Option Hp :=
  match badY K n0 [] 0 H with
  | [] => bif noYH (noY K) (fun _ => true) H then some H else none
  | d :: D =>
    let D := deadY K n0 H 3 (d :: D)
    let H2 := clrD n0 D 0 H
    bif noYH (noY K) (fun id => !(Nat.ble n0 id && memB D id)) H2 then some H2 else none

/-- Values that know of these blocks alone. -/
def lowF (I : Nat → Bool) : Frm → Bool
  | [] => true
  | (_, .v p) :: r => fnAll (fun _ => true) I p && lowF I r
  | (_, .box p) :: r => fnAll (fun _ => true) I p && lowF I r
  | (_, .bp _ _) :: r => lowF I r
def lowH (I : Nat → Bool) : Hp → Bool
  | [] => true
  | b :: r => (b.pu || fnAllL (fun _ => true) I b.rows) && lowH I r
mutual
def refsV : PV → List Nat
  | .ptr id _ _ _ => [id]
  | .own id _ _ _ _ => [id]
  | .sub id _ _ _ _ _ => [id]
  | .fn _ a b => refsL a ++ refsL b
  | .agg l => refsL l
  | .tup l => refsL l
  | _ => []
def refsL : List PV → List Nat
  | [] => []
  | x :: r => refsV x ++ refsL r
end
def refsF : Frm → List Nat
  | [] => []
  | (_, .v p) :: r => refsV p ++ refsF r
  | (_, .box p) :: r => refsV p ++ refsF r
  | (_, .bp _ _) :: r => refsF r
def refsH (D : List Nat) : Nat → Hp → List Nat
  | _, [] => []
  | i, b :: r => bif b.pu || memB D i then refsH D (i + 1) r else refsL b.rows ++ refsH D (i + 1) r
def dropM (l : List Nat) : List Nat → List Nat
  | [] => []
  | x :: r => bif memB l x then dropM l r else x :: dropM l r
/-- Blocks from this one on that nobody knows. -/
def gcD (F : Frm) (H : Hp) : Nat → List Nat → List Nat
  | 0, D => D
  | k + 1, D => gcD F H k (dropM (refsF F ++ refsH D 0 H) D)
def fromN (n : Nat) : Nat → List Nat
  | 0 => []
  | k + 1 => n :: fromN (n + 1) k
def topL (D : List Nat) (n : Nat) : Nat → Nat
  | 0 => n
  | k + 1 => bif memB D (n + k) then topL D n k else n + k + 1
/-- Blocks from this one on are forgotten, if nobody knows them. -/
def gcH (F : Frm) (n : Nat) (H : Hp) : Hp :=
  let D := gcD F H 4 (fromN n (H.length - n))
  let m := topL D n (H.length - n)
  let H2 := (clrD n D 0 H).take m
  bif lowF (fun id => Nat.blt id m && !(Nat.ble n id && memB D id)) F && lowH (fun id => Nat.blt id m && !(Nat.ble n id && memB D id)) H2 then H2 else H

mutual
def exec : Env → Nat → ACode → Frm → Hp → Option (Ex × Frm × Hp)
  | _, 0, _, _, _ => none
  | E, n + 1, c, F, H =>
    match c with
    | .skip => some (.norm, F, H)
    | .ops l pairs forget => (match runReg E (inline E n) l pairs F H with
      | some (F', H') => some (.norm, fdels F' forget, H')
      | none => none)
    | .seq a b => (match exec E n a F H with
      | some (.norm, F', H') => exec E n b F' H'
      | r => r)
    | .cond x a b => (match evV E F x with
      | some (.bool true) => exec E n a F H
      | some (.bool false) => exec E n b F H
      | _ => none)
    | .block id b => (match exec E n b F H with
      | some (.exit i, F', H') => if i = id then some (.norm, F', H') else some (.exit i, F', H')
      | r => r)
    | .loop b => (match exec E n b F H with
      | some (.norm, F', H') => exec E n (.loop b) F' H'
      | r => r)
    | .loopG b => (match exec E n b F H with
      | some (.norm, F', H') => exec E n (.loopG b) F' (gcH F' H.length H')
      | r => r)
    | .exit id => some (.exit id, F, H)
    | .ret => some (.ret, F, H)
    | .bad => none
    | .rangeF g ps as bd =>
      (match evV E F g with
       | some (.fn (.func f) first cap) => (match E.fns f with
         | some fn =>
           if (first ++ [PV.fn (.yield E.yn) [] []] ++ cap).length = fn.nparams ∧ fn.results.length = 0 then
             (match exec (E.push ⟨noBox F, ps, as, bd⟩ fun y vs H => (match setPs (noBox F) ps vs with
                | some F1 => (match exec (E.ats y) n as F1 H with
                  | some (.norm, F2, H2) => (match exec (E.ats y) n bd F2 H2 with
                    | some (.norm, _, H3) => some (none, H3)
                    | some (.exit i, _, H3) => some (some i, H3)
                    | _ => none)
                  | _ => none)
                | none => none)) n fn.body (frame0 0 (first ++ [PV.fn (.yield E.yn) [] []] ++ cap)) H with
              | some (.norm, _, H') | some (.ret, _, H') => (match clrY E.yn H.length H' with | some H2 => some (.norm, F, H2) | none => none)
              | some (.brk k i, _, H') => if k = E.yn then (match clrY E.yn H.length H' with | some H2 => some (.exit i, F, H2) | none => none) else none
              | _ => none) else none
         | none => none)
       | _ => none)
    | .yret c pre d y args e fgt =>
      (match runReg E (inline E n) pre [] F H with
       | some (F1, H1) => (match evV E F1 y, evs E F1 args with
         | some (.fn (.yield k) [] []), some vs => (match E.yl E.yn k vs H1 with
           | some (none, H2) => some (.norm, fdels (fset (fset F1 d (.v (.bool true))) e (.v (.bool false))) fgt, H2)
           | some (some i, H2) => some (.brk k i, fset (fset F1 d (.v (.bool false))) e (.v (.bool true)), H2)
           | none => none)
         | _, _ => exec E n c F H)
       | none => none)
def inline : Env → Nat → Nat → List PV → Hp → Option (PV × Hp)
  | _, 0, _, _, _ => none
  | E, n + 1, f, args, H =>
    match E.effx f args H with
    | some x => some x
    | none => match E.fns f with
      | some fn => if args.length = fn.nparams then
          (match exec E n fn.body (frame0 0 args) H with
           | some (.norm, F', H') | some (.ret, F', H') => (match ressOf F' H' fn.results with
             | some ps => some (packed ps, H')
             | none => none)
           | _ => none) else none
      | none => none
end

end Go.Pf
