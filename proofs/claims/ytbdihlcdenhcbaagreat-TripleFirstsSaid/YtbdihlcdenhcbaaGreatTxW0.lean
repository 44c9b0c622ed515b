/- Part 0. -/
import GoSem.Core.Code
import GoSem.Core.View
import Derived.Laws.CopyRow
import Derived.Calls
import Derived.Below
import GoSem.Core.Layout
import GoSem.Op.Equal
import GoSem.ClaimKeys
import Derived.DeepKeys
import Derived.Lib.AppendZeros
import Derived.OrdersIn
import Derived.RangeFuncRecord
import Derived.RangeFuncLeaves
import Derived.Orders
import Derived.RecoverIn
import Derived.Laws.Externs
import Derived.KernelRfl
import Derived.ChangeArms
import Derived.OpenShut
import Derived.ReadAgain
import Derived.WalkKit
import Derived.ProofKit
import Derived.ChangeSame
import Derived.ChangeAt
import Derived.Sort.Defs
import Derived.Lib.BitFns
import Derived.Sort.AssemblyPlain
import Derived.Test.YtbdihlcdenhcbaaGreatProg
open Go.IntKind (i64 u8 u64)
open List (length getD take drop replicate set map isEmpty)
namespace Go.Pf
theorem Os:type_of% @decide_eq_true:=@decide_eq_true
theorem Tx:type_of% @decide_eq_false:=@decide_eq_false
theorem WM:type_of% @if_pos:=@if_pos
theorem WN:type_of% @if_neg:=@if_neg
theorem WO:type_of% @congrArg:=@congrArg
theorem Aaa:type_of% @decide_eq_decide:=@decide_eq_decide
theorem Aab:type_of% @propext:=@propext
end Go.Pf
noncomputable section
namespace Go.Pf
theorem bO:type_of% @Bool.and_eq_true:=@Bool.and_eq_true
theorem bT:type_of% @Option.some.injEq:=@Option.some.injEq
theorem dU:type_of% @List.getElem?_eq_getElem:=@List.getElem?_eq_getElem
theorem eQ:type_of% @List.getD_eq_getElem?_getD:=@List.getD_eq_getElem?_getD
theorem cM:type_of% @Int.toNat_natCast:=@Int.toNat_natCast
theorem dK:type_of% @Nat.eq_of_beq_eq_true:=@Nat.eq_of_beq_eq_true
theorem dM:type_of% @List.length_append:=@List.length_append
theorem bW:type_of% @Nat.le_refl:=@Nat.le_refl
theorem gK:type_of% @Nat.mul_le_mul_right:=@Nat.mul_le_mul_right
theorem gO:type_of% @List.mem_cons_of_mem:=@List.mem_cons_of_mem
theorem gE:type_of% @Bool.false_eq_true:=@Bool.false_eq_true
theorem jI:type_of% @List.getElem?_eq_none:=@List.getElem?_eq_none
theorem dC:type_of% @Nat.add_mul:=@Nat.add_mul
theorem nA:type_of% @List.getElem?_eq_some_iff:=@List.getElem?_eq_some_iff
theorem qAo:type_of% @List.mem_cons:=@List.mem_cons
theorem lD:type_of% @List.length_singleton:=@List.length_singleton
theorem kC:type_of% @List.mem_cons_self:=@List.mem_cons_self
theorem mI:type_of% @Option.map_eq_some_iff:=@Option.map_eq_some_iff
theorem jR:type_of% @Bool.not_eq_true':=@Bool.not_eq_true'
theorem kD:type_of% @List.length_drop:=@List.length_drop
theorem lF:type_of% @Nat.lt_of_lt_of_le:=@Nat.lt_of_lt_of_le
theorem qAv:type_of% @List.mem_append:=@List.mem_append
theorem kI:type_of% @List.length_cons:=@List.length_cons
theorem sJ:type_of% @Array.getD_eq_getD_getElem?:=@Array.getD_eq_getD_getElem?
theorem kW:type_of% @List.length_take:=@List.length_take
theorem jS:type_of% @Bool.not_false:=@Bool.not_false
theorem kJ:type_of% @List.cons.injEq:=@List.cons.injEq
theorem lX:type_of% @List.append_assoc:=@List.append_assoc
theorem pD:type_of% @List.drop_of_length_le:=@List.drop_of_length_le
theorem lH:type_of% @Int.natCast_ediv:=@Int.natCast_ediv
theorem qA4:type_of% @Nat.lt_or_ge:=@Nat.lt_or_ge
theorem iK:type_of% @Nat.zero_add:=@Nat.zero_add
theorem jJ:type_of% @Bool.not_true:=@Bool.not_true
theorem qT:type_of% @Rat.intCast_le_intCast:=@Rat.intCast_le_intCast
theorem pF:type_of% @List.getElem?_append:=@List.getElem?_append
theorem pG:type_of% @List.getElem?_set_ne:=@List.getElem?_set_ne
theorem kX:type_of% @Int.mul_nonneg:=@Int.mul_nonneg
theorem iM:type_of% @Rat.le_refl:=@Rat.le_refl
theorem sK:type_of% @List.getElem?_set_self:=@List.getElem?_set_self
theorem jT:type_of% @Nat.le_trans:=@Nat.le_trans
theorem iZ:type_of% @Nat.one_mul:=@Nat.one_mul
theorem nB:type_of% @Nat.div_le_self:=@Nat.div_le_self
theorem wH:type_of% @Option.isSome_iff_exists:=@Option.isSome_iff_exists
theorem wI:type_of% @Nat.gcd_pos_of_pos_right:=@Nat.gcd_pos_of_pos_right
theorem AL:type_of% @Int.mul_le_mul_of_nonneg_right:=@Int.mul_le_mul_of_nonneg_right
theorem mJ:type_of% @Bool.false_and:=@Bool.false_and
theorem qU:type_of% @List.getElem?_take:=@List.getElem?_take
theorem nR:type_of% @Bool.or_eq_true:=@Bool.or_eq_true
theorem kF:type_of% @Nat.zero_le:=@Nat.zero_le
theorem wJ:type_of% @List.take_of_length_le:=@List.take_of_length_le
theorem qV:type_of% @List.ext_getElem?:=@List.ext_getElem?
theorem sM:type_of% @List.getElem?_drop:=@List.getElem?_drop
theorem wK:type_of% @List.length_replicate:=@List.length_replicate
theorem lY:type_of% @Rat.le_of_lt:=@Rat.le_of_lt
theorem yR:type_of% @Nat.le_mul_of_pos_right:=@Nat.le_mul_of_pos_right
theorem uR:type_of% @List.filterMap_cons:=@List.filterMap_cons
theorem yS:type_of% @List.getElem?_cons_zero:=@List.getElem?_cons_zero
theorem qW:type_of% @Array.toList_inj:=@Array.toList_inj
theorem pH:type_of% @List.nil_append:=@List.nil_append
theorem CV:type_of% @List.eq_nil_of_length_eq_zero:=@List.eq_nil_of_length_eq_zero
theorem oN:type_of% @Int.mul_le_mul:=@Int.mul_le_mul
theorem wL:type_of% @Bool.or_eq_false_iff:=@Bool.or_eq_false_iff
theorem uS:type_of% @Int.natCast_nonneg:=@Int.natCast_nonneg
theorem yT:type_of% @Nat.le_of_ble_eq_true:=@Nat.le_of_ble_eq_true
theorem wM:type_of% @List.mem_singleton:=@List.mem_singleton
theorem sN:type_of% @List.length_set:=@List.length_set
theorem qX:type_of% @List.drop_zero:=@List.drop_zero
theorem qY:type_of% @List.mem_range:=@List.mem_range
theorem CW:type_of% @Int.mul_neg_of_neg_of_pos:=@Int.mul_neg_of_neg_of_pos
theorem pI:type_of% @Bool.true_and:=@Bool.true_and
theorem FT:type_of% @Rat.mul_le_mul_of_nonneg_left:=@Rat.mul_le_mul_of_nonneg_left
theorem wN:type_of% @List.getElem?_map:=@List.getElem?_map
theorem uT:type_of% @Int.ediv_nonneg:=@Int.ediv_nonneg
theorem uU:type_of% @Int.natCast_mul:=@Int.natCast_mul
theorem wO:type_of% @List.cons_append:=@List.cons_append
theorem wP:type_of% @Option.getD_some:=@Option.getD_some
theorem CX:type_of% @Rat.intCast_lt_intCast:=@Rat.intCast_lt_intCast
theorem sO:type_of% @List.map_cons:=@List.map_cons
theorem uV:type_of% @List.mapM_cons:=@List.mapM_cons
theorem CY:type_of% @Nat.ble_eq_true_of_le:=@Nat.ble_eq_true_of_le
theorem wQ:type_of% @Rat.intCast_mul:=@Rat.intCast_mul
theorem yU:type_of% @Int.ediv_le_self:=@Int.ediv_le_self
theorem yV:type_of% @List.take_length:=@List.take_length
theorem yW:type_of% @List.all_eq_true:=@List.all_eq_true
theorem yX:type_of% @List.isEmpty_iff:=@List.isEmpty_iff
theorem yY:type_of% @Nat.zero_lt_succ:=@Nat.zero_lt_succ
theorem CZ:type_of% @List.range_eq_range':=@List.range_eq_range'
theorem Jf:type_of% @Array.getElem?_setIfInBounds:=@Array.getElem?_setIfInBounds
theorem FU:type_of% @Option.bind_eq_some_iff:=@Option.bind_eq_some_iff
theorem uW:type_of% @Nat.add_assoc:=@Nat.add_assoc
theorem FW:type_of% @List.getElem?_cons_succ:=@List.getElem?_cons_succ
theorem uX:type_of% @Bool.and_self:=@Bool.and_self
theorem wR:type_of% @Nat.mul_le_mul:=@Nat.mul_le_mul
theorem Da:type_of% @Array.length_toList:=@Array.length_toList
theorem yZ:type_of% @List.length_map:=@List.length_map
theorem zA:type_of% @List.nodup_cons:=@List.nodup_cons
theorem AM:type_of% @List.elem_eq_mem:=@List.elem_eq_mem
theorem AN:type_of% @List.not_mem_nil:=@List.not_mem_nil
theorem Db:type_of% @Int.emod_lt_of_pos:=@Int.emod_lt_of_pos
theorem uY:type_of% @Nat.add_zero:=@Nat.add_zero
theorem uZ:type_of% @Nat.gcd_comm:=@Nat.gcd_comm
theorem Jg:type_of% @List.drop_eq_getElem_cons:=@List.drop_eq_getElem_cons
theorem FX:type_of% @List.mem_of_getElem?:=@List.mem_of_getElem?
theorem FY:type_of% @List.mem_append_left:=@List.mem_append_left
theorem FZ:type_of% @Nat.pow_le_pow_right:=@Nat.pow_le_pow_right
theorem Dc:type_of% @List.nodup_append:=@List.nodup_append
theorem AP:type_of% @Rat.num_eq_zero:=@Rat.num_eq_zero
theorem zG:type_of% @Bool.false_or:=@Bool.false_or
theorem zH:type_of% @Rat.lt_irrefl:=@Rat.lt_irrefl
theorem Dd:type_of% @Array.toList_map:=@Array.toList_map
theorem De:type_of% @List.getElem_mem:=@List.getElem_mem
theorem Df:type_of% @List.isEmpty_nil:=@List.isEmpty_nil
theorem AQ:type_of% @Rat.num_nonneg:=@Rat.num_nonneg
theorem Ga:type_of% @List.append_of_mem:=@List.append_of_mem
theorem Gb:type_of% @Int.natAbs_natCast:=@Int.natAbs_natCast
theorem Dg:type_of% @Int.emod_nonneg:=@Int.emod_nonneg
theorem Dh:type_of% @Nat.min_eq_left:=@Nat.min_eq_left
theorem Di:type_of% @List.length_nil:=@List.length_nil
theorem qDk:type_of% @Option.some.inj:=@Option.some.inj
theorem Dj:type_of% @Rat.num_intCast:=@Rat.num_intCast
theorem Dk:type_of% @Rat.den_intCast:=@Rat.den_intCast
theorem Gc:type_of% @List.getElem?_set:=@List.getElem?_set
theorem Gd:type_of% @Nat.gcd_dvd_right:=@Nat.gcd_dvd_right
theorem zJ:type_of% @Int.neg_mul:=@Int.neg_mul
inductive PV where
 | bool (b:Bool)
 | int (k:IntKind) (n:Int)
 | nilp
 | ptr (id ext i off:Nat)
 | eptr (rows:List PV) (i off:Nat)
 | nils
 | emp
 | mt (nil:Bool)
 | data (rows:List PV)
 | own (id lo len ext:Nat) (cap:Option Nat)
 | sub (id ext i off n esz:Nat)
 | fn (f:Fn) (first captured:List PV)
 | nilf
 | agg (cells:List PV)
 | tup (vs:List PV)
 deriving Inhabited
inductive FV where
 | v (p:PV)
 | box (row:PV)
 | bp (s off:Nat)
 deriving Inhabited
abbrev aD:=List (Nat×FV)
def fget:aD→Nat→Option FV
 | [],_=>none
 | (k,x)::r,s=>if k=s then some x else fget r s
def aF:aD→Nat→FV→aD
 | [],s,y=>[(s,y)]
 | (k,x)::r,s,y=>if s<k then (s,y)::(k,x)::r else if k=s then (s,y)::r else (k,x)::aF r s y
def eR:aD→Nat→aD
 | [],_=>[]
 | (k,x)::r,s=>if k=s then eR r s else (k,x)::eR r s
def fdels:aD→List Nat→aD
 | F,[]=>F
 | F,s::l=>fdels (eR F s) l
structure HB where
 fz:Bool
 pu:Bool
 esz:Nat
 rows:List PV
 deriving Inhabited
abbrev Hp:=List HB
inductive Opd where
 | t (s:Nat)
 | c (v:PV)
 | g (n:Nat)
 | f (n:Nat)
 deriving Inhabited
inductive AOp where
 | mv (x:Opd)
 | mvD (x:Opd)
 | slcA (n esz:Nat) (x:Opd)
 | pick (c a b:Opd)
 | aL (z:PV)
 | boxL (x:Opd)
 | aH (pu:Bool) (esz:Nat) (z:PV)
 | boxH (pu:Bool) (esz:Nat) (x:Opd)
 | build (z:List PV) (parts:List (Nat×Nat×Opd))
 | bSl (pu:Bool) (esz:Nat) (z:PV) (len:Nat) (parts:List (Nat×Opd))
 | buildN (pu:Bool) (esz:Nat) (z:PV) (len:Nat) (parts:List (Nat×Opd))
 | bD (esz:Nat) (z:PV) (len:Nat) (parts:List (Nat×Opd))
 | load (agg:Bool) (sz:Nat) (a:Opd)
 | store (sz:Nat) (a x:Opd)
 | bin (op:BinOp) (x y:Opd)
 | eqB (neg:Bool) (x y:Opd)
 | eqA (neg:Bool) (sz:Nat) (idx:List (Nat×Option IntKind)) (x y:Opd)
 | eqN (neg:Bool) (x:Opd)
 | un (op:UnOp) (x:Opd)
 | conv (k:IntKind) (x:Opd)
 | mkFn (f:Fn) (first captured:List Opd)
 | mkSl (pu:Bool) (esz bytes:Nat) (z:PV) (l c:Opd)
 | slc (esz:Nat) (x:Opd) (lo hi mx:Option Opd)
 | fad (off:Nat) (x:Opd)
 | fld (agg:Bool) (sz off:Nat) (x:Opd)
 | iad (esz:Nat) (x i:Opd)
 | iadA (n esz:Nat) (x i:Opd)
 | idx (agg:Bool) (n esz:Nat) (x i:Opd)
 | ext (x:Opd) (i:Nat)
 | call (f:Opd) (args:List Opd)
 | len (x:Opd)
 | cap (x:Opd)
 | app (pu:Bool) (esz bytes:Nat) (s x:Opd)
 | appZ (pu:Bool) (esz bytes:Nat) (z:PV) (s n:Opd)
 | clr (pu:Bool) (esz:Nat) (z:PV) (x:Opd)
 | minmax (mx:Bool) (l:List Opd)
 | nilchk (x:Opd)
 | dfr (n:Nat)
 | bad
 deriving Inhabited
structure AO where
 dst:Option Nat
 op:AOp
 guard:Option (Nat×Bool)
 deriving Inhabited
inductive AC where
 | skip
 | ops (l:List AO) (pairs:List (Nat×Nat)) (forget:List Nat)
 | seq (a b:AC)
 | cond (c:Opd) (a b:AC)
 | block (id:Nat) (b:AC)
 | loop (b:AC)
 | lG (b:AC)
 | exit (id:Nat)
 | ret
 | bad
 | rangeF (g:Opd) (ps:List Nat) (az body:AC)
 | yret (c:AC) (pre:List AO) (d:Nat) (y:Opd) (args:List Opd) (e:Nat) (fgt:List Nat)
 deriving Inhabited
inductive ARes where
 | tmp (t:Nat)
 | cell (a:Nat) (agg:Bool) (sz:Nat)
 deriving Inhabited
structure AFn where
 nparams:Nat
 results:List ARes
 body:AC
 deriving Inhabited
def PV.cells:PV→List PV
 | .agg cs=>cs
 | x=>[x]
def PV.one:PV→Bool
 | .agg _ | .tup _=>false
 | _=>true
def jK:List PV→Bool
 | []=>true
 | x::r=>x.one&&jK r
def ygw (agg:Bool) (sz:Nat) (row:PV) (off:Nat):Option PV:=
 if agg then (if off+sz≤row.cells.length then some (.agg ((row.cells.drop off).take sz)) else none)
 else row.cells[off]?
def yjZ (row:PV) (off sz:Nat) (x:PV):Option PV:=
 match row with
 | .agg cs=>if x.cells.length=sz∧off+sz≤cs.length∧jK x.cells=true then some (.agg (cs.take off++(x.cells++cs.drop (off+sz)))) else none
 | .tup _=>none
 | _=>if off=0∧sz=1∧x.one=true then some x else none
def yiw (H:Hp):PV→Option (List PV)
 | .nils | .emp | .mt _=>some []
 | .data rows=>some rows
 | .own id lo len ext _=>
  match H[id]? with
  | some b=>if b.rows.length=ext∧lo+len≤ext then some ((b.rows.drop lo).take len) else none
  | none=>none
 | _=>none
def yfB (H:Hp):PV→Option (PV×Hp)
 | .bool b=>some (.bool b,H)
 | .int k n=>some (.int k n,H)
 | .nils | .emp | .mt _=>some (.data [],H)
 | .data rows=>some (.data rows,H)
 | .own id lo len ext _=>
  match H[id]? with
  | some b=>if b.rows.length=ext∧lo+len≤ext∧b.pu=true then some (.data ((b.rows.drop lo).take len),H.set id { b with fz:=true }) else none
  | none=>none
 | _=>none
def yeq (H:Hp):List PV→Option (List PV×Hp)
 | []=>some ([],H)
 | x::r=>match yfB H x with
  | some (y,H')=>match yeq H' r with
   | some (ys,H'')=>some (y::ys,H'')
   | none=>none
  | none=>none
def yca (H:Hp):PV→Option (PV×Hp)
 | .agg cs=>(yeq H cs).map fun (ys,H')=>(.agg ys,H')
 | x=>yfB H x
def ybd (H:Hp):List PV→Option (List PV×Hp)
 | []=>some ([],H)
 | x::r=>match yca H x with
  | some (y,H')=>match ybd H' r with
   | some (ys,H'')=>some (y::ys,H'')
   | none=>none
  | none=>none
def PV.scal:PV→Bool
 | .bool _ | .int _ _=>true
 | _=>false
def sP:List PV→Bool
 | []=>true
 | x::r=>x.scal&&sP r
def PV.scalar:PV→Bool
 | .agg cs=>sP cs
 | .tup []=>true
 | .tup [a]=>(match a with | .agg cs=>sP cs | x=>x.scal)
 | .tup [a,b]=>(match a with | .agg cs=>sP cs | x=>x.scal)&&(match b with | .agg cs=>sP cs | x=>x.scal)
 | .tup [a,b,c]=>(match a with | .agg cs=>sP cs | x=>x.scal)&&((match b with | .agg cs=>sP cs | x=>x.scal)&&(match c with | .agg cs=>sP cs | x=>x.scal))
 | x=>x.scal
def binI (op:BinOp) (k:IntKind) (a b:Int):Option PV:=
 match op with
 | .add=>some (.int k (k.wrap (a+b)))
 | .sub=>some (.int k (k.wrap (a-b)))
 | .mul=>some (.int k (k.wrap (a*b)))
 | .quo=>if b=0 then none else some (.int k (k.wrap (a.tdiv b)))
 | .rem=>if b=0 then none else some (.int k (a.tmod b))
 | .and=>some (.int k (k.wrap (BitVec.ofInt k.bits a&&&BitVec.ofInt k.bits b).toNat))
 | .or=>some (.int k (k.wrap (BitVec.ofInt k.bits a|||BitVec.ofInt k.bits b).toNat))
 | .xor=>some (.int k (k.wrap (BitVec.ofInt k.bits a ^^^ BitVec.ofInt k.bits b).toNat))
 | .andNot=>some (.int k (k.wrap (BitVec.ofInt k.bits a&&&~~~ BitVec.ofInt k.bits b).toNat))
 | .eql=>some (.bool (a==b))
 | .neq=>some (.bool (a !=b))
 | .lss=>some (.bool (decide (a<b)))
 | .leq=>some (.bool (decide (a≤b)))
 | .gtr=>some (.bool (decide (a>b)))
 | .geq=>some (.bool (decide (a≥b)))
 | .shl | .shr=>none
def Dl (op:BinOp) (k:IntKind) (a b:Int):Option PV:=
 if b<0 then none else
 match op with
 | .shl=>some (.int k (k.wrap (a*2 ^ (min b.toNat k.bits))))
 | .shr=>some (.int k (a.fdiv (2 ^ (min b.toNat k.bits))))
 | _=>none
def binV (op:BinOp):PV→PV→Option PV
 | .int k a,.int k' b=>
  match op with
  | .shl=>Dl .shl k a b
  | .shr=>Dl .shr k a b
  | op=>if k=k' then binI op k a b else none
 | _,_=>none
def unV (op:UnOp):PV→Option PV
 | .int k n=>(match op with
  | .neg=>some (.int k (k.wrap (0-n)))
  | .xor=>some (.int k (k.wrap (BitVec.ofInt k.bits (if k.signed then -1 else k.max) ^^^ BitVec.ofInt k.bits n).toNat))
  | _=>none)
 | .bool b=>(match op with | .not=>some (.bool !b) | _=>none)
 | _=>none
def eq1:Option IntKind→PV→PV→Option Bool
 | some q,.int k a,.int k' b=>if k=q∧k'=q then some (a==b) else none
 | none,.bool a,.bool b=>some (a==b)
 | _,_,_=>none
def eqL (a b:List PV):List (Nat×Option IntKind)→Option Bool
 | []=>some true
 | (i,k)::r=>match a[i]?,b[i]? with
  | some x,some y=>(match eq1 k x y,eqL a b r with
   | some p,some q=>some (p&&q)
   | _,_=>none)
  | _,_=>none
def yul (mx:Bool):PV→List PV→Option PV
 | x,[]=>some x
 | .int k a,.int k' b::r=>if k=k' then yul mx (.int k (if mx then (if b>a then b else a) else (if b<a then b else a))) r else none
 | _,_=>none
structure LCtx where
 F:aD
 ps:List Nat
 az:AC
 bd:AC
structure Env where
 glob:Nat→Option PV
 sum:Nat→List PV→Option PV
 fns:Nat→Option AFn
 frz:Nat→Bool
 qui:Nat→Bool
 eff:Nat→List PV→Hp→Option (Bool×Bool×(PV×Hp)×(PV×Hp)):=fun _ _ _=>none
 nl:Nat→Bool:=fun _=>false
 rb:Nat→Bool:=fun _=>false
 lo:Nat→Option Nat:=fun _=>none
 dn:Nat→Bool:=fun _=>false
 yn:Nat:=0
 ctx:Nat→Option LCtx:=fun _=>none
 yl:Nat→Nat→List PV→Hp→Option (Option Nat×Hp):=fun _ _ _ _=>none
def AR (b:HB):HB:=⟨true,b.pu,b.esz,b.rows⟩
def jU:Hp→Hp
 | []=>[]
 | b::r=>AR b::jU r
def pJ:Option (Bool×Bool×(PV×Hp)×(PV×Hp))→Option (PV×Hp)
 | some (true,t,x,y)=>some (bif t then x else y)
 | _=>none
def Env.effx (E:Env) (n:Nat) (az:List PV) (H:Hp):Option (PV×Hp):=pJ (E.eff n az H)
def ev (E:Env) (F:aD):Opd→Option FV
 | .t s=>(match fget F s with | some (.box _)=>some (.bp s 0) | r=>r)
 | .c x=>some (.v x)
 | .g n=>(match E.glob n with | some x=>some (.v (.eptr [x] 0 0)) | none=>none)
 | .f n=>some (.v (.fn (.func n) [] []))
def evV (E:Env) (F:aD) (x:Opd):Option PV:=
 match ev E F x with
 | some (.v p)=>some p
 | _=>none
def evs (E:Env) (F:aD):List Opd→Option (List PV)
 | []=>some []
 | x::r=>match evV E F x with
  | some p=>(match evs E F r with | some ps=>some (p::ps) | none=>none)
  | none=>none
def yey (E:Env) (F:aD) (x:Opd):Option Int:=
 match evV E F x with
 | some (.int _ n)=>some n
 | _=>none
def nS (E:Env) (F:aD):Option Opd→Option (Option Int)
 | none=>some none
 | some x=>(yey E F x).map some
def ylv (E:Env) (F:aD):List PV→List (Nat×Nat×Opd)→Option (List PV)
 | cs,[]=>some cs
 | cs,(off,sz,x)::r=>
  match evV E F x with
  | some p=>if p.cells.length=sz∧off+sz≤cs.length∧jK p.cells=true then ylv E F (cs.take off++(p.cells++cs.drop (off+sz))) r else none
  | none=>none
def yhl (E:Env) (F:aD) (pu:Bool) (esz:Nat):List PV→Hp→List (Nat×Opd)→Option (List PV×Hp)
 | rows,H,[]=>some (rows,H)
 | rows,H,(i,x)::r=>
  match evV E F x with
  | some p=>
   (match (if pu then yca H p else some (p,H)) with
    | some (q,H')=>if q.cells.length=esz∧i<rows.length∧jK q.cells=true then yhl E F pu esz (rows.set i q) H' r else none
    | none=>none)
  | none=>none
def AS (len:Nat):Option Nat→Int
 | some c=>c
 | none=>len
def hO (esz:Nat):List PV→Bool
 | []=>true
 | x::_=>x.cells.length==esz
def yix (H:Hp) (esz:Nat) (lo hi mx:Option Int):PV→Option PV
 | .nils=>if lo.getD 0=0∧hi.getD 0=0∧mx.getD 0=0 then some .nils else none
 | .emp=>if lo.getD 0=0∧hi.getD 0=0∧mx.getD 0=0 then some .emp else none
 | .data rows=>
  let h:=hi.getD rows.length;let l:=lo.getD 0
  (match mx with
   | none=>if 0≤l∧l≤h∧h≤rows.length∧(l=0∨hO esz rows=true) then some (.data ((rows.take h.toNat).drop l.toNat)) else none
   | some m=>if 0≤l∧l≤h∧h≤m∧m≤rows.length∧(l=0∨hO esz rows=true) then (if l=m then some .emp else some (.data ((rows.take h.toNat).drop l.toNat))) else none)
 | .own id lo0 len ext cap=>
  let h:=hi.getD len;let l:=lo.getD 0;let top:Int:=AS len cap
  if (match H[id]? with | some b=>b.esz==esz | none=>false)=false then none else
  (match mx with
   | none=>if 0≤l∧l≤h∧(h≤len∨h≤top) then some (.own id (lo0+l.toNat) (h-l).toNat ext (cap.map fun c=>c-l.toNat)) else none
   | some m=>if 0≤l∧l≤h∧h≤m∧(m≤len∨m≤top) then some (.own id (lo0+l.toNat) (h-l).toNat ext (some (m-l).toNat)) else none)
 | _=>none
def lenV:PV→Option Nat
 | .nils | .emp | .mt _=>some 0
 | .data rows=>some rows.length
 | .own _ _ len _ _=>some len
 | .sub _ _ _ _ n _=>some n
 | _=>none
def capV:PV→Option Nat
 | .nils | .emp=>some 0
 | .own _ _ _ _ (some c)=>some c
 | _=>none
def room:Nat:=35184372088832
def vC (H:Hp) (pu:Bool):PV→Bool
 | .own id _ _ _ _=>(match H[id]? with | some b=>b.pu==pu | none=>false)
 | _=>true
def ydm (H:Hp) (pu:Bool) (esz bytes:Nat) (rows:List PV):Option (PV×Hp):=
 if (rows.length+64)*(bytes+1)≤room then some (.own H.length 0 rows.length rows.length none,H++[⟨false,pu,esz,rows⟩]) else none
def nC (H:Hp) (pu:Bool) (esz bytes:Nat) (ys:List PV) (id lo len ext:Nat) (cap:Option Nat) (b:HB):Option (PV×Hp):=
 match cap with
 | some c=>
  if len+ys.length≤c then
   (if b.fz=false then some (.own id lo (len+ys.length) ext cap,H.set id { b with rows:=b.rows.take (lo+len)++(ys++b.rows.drop (lo+len+ys.length)) }) else none)
  else ydm H pu esz bytes ((b.rows.drop lo).take len++ys)
 | none=>
  if b.fz=true then none
  else if lo+len+ys.length≤ext then some (.own id lo (len+ys.length) ext cap,H.set id { b with rows:=b.rows.take (lo+len)++(ys++b.rows.drop (lo+len+ys.length)) })
  else if lo=0∧len≤ext∧(len+ys.length+64)*(bytes+1)≤room then some (.own id 0 (len+ys.length) (len+ys.length) none,H.set id { b with rows:=b.rows.take len++ys })
  else none
def appV (H:Hp) (pu:Bool) (esz bytes:Nat) (s x:PV):Option (PV×Hp):=
 match yiw H x with
 | none=>none
 | some ys=>
  if hO esz ys=true∧vC H pu x=true then
   (match s with
    | .nils=>if ys.isEmpty then some (.nils,H) else ydm H pu esz bytes ys
    | .emp=>if ys.isEmpty then some (.emp,H) else ydm H pu esz bytes ys
    | .own id lo len ext cap=>
     (match H[id]? with
      | some b=>if b.rows.length=ext∧b.pu=pu∧b.esz=esz∧lo+len≤ext then
       (if ys.isEmpty then some (.own id lo len ext cap,H) else nC H pu esz bytes ys id lo len ext cap b) else none
      | none=>none)
    | _=>none)
  else none
def appZ (H:Hp) (pu:Bool) (esz bytes:Nat) (z:PV) (s:PV) (k:Nat):Option (PV×Hp):=
 match s with
 | .nils=>if k=0 then some (.nils,H) else ydm H pu esz bytes (replicate k z)
 | _=>none
def clrV (H:Hp) (pu:Bool) (esz:Nat) (z:PV):PV→Option Hp
 | .nils | .emp | .mt _=>some H
 | .own id lo len ext _=>
  (match len with
   | 0=>some H
   | len+1=>(match H[id]? with
    | some b=>if b.rows.length=ext∧lo+(len+1)≤ext∧b.fz=false∧b.pu=pu∧b.esz=esz then some (H.set id { b with rows:=b.rows.take lo++(replicate (len+1) z++b.rows.drop (lo+(len+1))) }) else none
    | none=>none))
 | _=>none
structure Out where
 x:Option FV
 bx:Option (Nat×PV)
 h:Hp
def outV (p:PV) (H:Hp):Option Out:=some ⟨some (.v p),none,H⟩
def purP (H:Hp):PV→Option PV
 | .ptr id ext i off=>(match H[id]? with
  | some b=>if b.rows.length=ext then (match b.rows[i]? with
   | some row=>(match yca H row with | some (q,_)=>some (.eptr [q] 0 off) | none=>none)
   | none=>none) else none
  | none=>none)
 | .eptr rows i off=>some (.eptr rows i off)
 | x=>(match yca H x with | some (q,_)=>some q | none=>none)
def yyO (H:Hp):List PV→Option (List PV)
 | []=>some []
 | x::r=>match purP H x with
  | some y=>(match yyO H r with | some ys=>some (y::ys) | none=>none)
  | none=>none
def Ng (H:Hp):PV→Option PV
 | .tup [.own id lo len ext _,.int k n]=>(match H[id]? with
  | some b=>if b.rows.length=ext∧lo+len≤ext then (match yeq H ((b.rows.drop lo).take len) with | some (ys,_)=>some (.tup [.data ys,.int k n]) | none=>none) else none
  | none=>none)
 | _=>none
def purR (H:Hp):PV→Option PV
 | .tup ps=>(match ybd H ps with | some (qs,_)=>some (.tup qs) | none=>none)
 | x=>(match yca H x with | some (q,_)=>some q | none=>none)
def kK (b:Bool) (H:Hp) (x:PV):Option PV:=bif b then (match x with | .nils=>some .nils | x=>(match purR H x with | some q=>some q | none=>Ng H x)) else purR H x
def ycH (E:Env) (call:Nat→List PV→Hp→Option (PV×Hp)) (n:Nat) (ps:List PV):Option PV:=
 match E.sum n ps with
 | some r=>some r
 | none=>if E.qui n then (match call n ps [] with | some (r,H)=>kK (E.nl n) H r | none=>none) else none
def yBp (H:Hp):PV→Option (PV×Hp)
 | .tup ps=>(match ybd H ps with | some (qs,H')=>some (.tup qs,H') | none=>none)
 | x=>yca H x
structure LocC where
 n:Nat
 j:Nat
 all:List PV
 id:Nat
 y:PV
def locY:PV→Option (Nat×PV)
 | .own id lo len ext cap=>some (id,.own 0 lo len ext cap)
 | .ptr id ext i off=>some (id,.ptr 0 ext i off)
 | _=>none
def ype (E:Env) (f:PV) (args:List PV):Option LocC:=
 match f with
 | .fn (.func n) first captured=>(match E.lo n with
  | some j=>(match (first++args++captured)[j]? with
   | some v=>(match locY v with
    | some (id,y)=>some ⟨n,j,first++args++captured,id,y⟩
    | none=>none)
   | none=>none)
  | none=>none)
 | _=>none
def yCe (call:Nat→List PV→Hp→Option (PV×Hp)) (n:Nat) (az:List PV) (b:HB):Option (PV×List PV):=
 match call n az [b] with
 | some (r,H1)=>(match yBp H1 r with
  | some (q,H2)=>(match H2[0]? with
   | some b2=>if b2.fz=false∧b2.rows.length=b.rows.length then some (q,b2.rows) else none
   | none=>none)
  | none=>none)
 | none=>none
def Dm (call:Nat→List PV→Hp→Option (PV×Hp)) (x:LocC) (H:Hp):Option (PV×Hp):=
 match ybd H (x.all.set x.j (.int .i64 0)) with
 | some (az,H')=>(match H'[x.id]? with
  | some b=>if b.fz=false∧b.pu=true then
   (match yCe call x.n (az.set x.j x.y) b with
    | some (q,rows)=>some (q,H'.set x.id { b with rows:=rows })
    | none=>none) else none
  | none=>none)
 | none=>none
def pK (E:Env) (call:Nat→List PV→Hp→Option (PV×Hp)) (f:PV) (args:List PV) (H:Hp):Option (PV×Hp):=
 match f with
 | .fn (.func n) first captured=>
  if E.rb n then (match yyO (jU H) (first++args++captured) with
    | some az=>(match ycH E call n az with
      | some r=>if r.scalar then some (r,H) else none
      | none=>none)
    | none=>none)
  else
  (match (match ybd H (first++args++captured) with
     | some (az,H')=>(match ycH E call n az with
       | some r=>if r.scalar then some (r,H) else some (r,H')
       | none=>none)
     | none=>none) with
   | some r=>some r
   | none=>
     if E.qui n then none
     else if E.frz n then
       (match ybd H (first++args++captured) with
        | some (az,H')=>call n az H'
        | none=>none)
     else call n (first++args++captured) H)
 | .fn (.yield k) [] []=>(match E.yl E.yn k args H with | some (none,H')=>some (.bool true,H') | _=>none)
 | _=>none
def ylw (E:Env) (call:Nat→List PV→Hp→Option (PV×Hp)) (f:PV) (args:List PV) (H:Hp):Option (PV×Hp):=
 match ype E f args with
 | some x=>Dm call x H
 | none=>pK E call f args H
def yas (E:Env) (call:Nat→List PV→Hp→Option (PV×Hp)) (F:aD) (H:Hp):AOp→Option Out
 | .mv x=>(match evV E F x with | some p=>outV p H | none=>none)
 | .slcA n esz x=>(match ev E F x with | some (.v (.ptr id ext i off))=>if n≠0∧n≤16777216 then outV (.sub id ext i off n esz) H else none | _=>none)
 | .mvD x=>(match evV E F x with | some p=>(match yfB H p with | some (.data rows,H')=>outV (.data rows) H' | _=>none) | none=>none)
 | .pick c a b=>
  (match evV E F c with
   | some (.bool true)=>(match evV E F a with | some p=>outV p H | none=>none)
   | some (.bool false)=>(match evV E F b with | some p=>outV p H | none=>none)
   | _=>none)
 | .aL z=>some ⟨some (.box z),none,H⟩
 | .boxL x=>(match evV E F x with | some p=>if jK p.cells=true then some ⟨some (.box p),none,H⟩ else none | none=>none)
 | .aH pu esz z=>some ⟨some (.v (.ptr H.length 1 0 0)),none,H++[⟨false,pu,esz,[z]⟩]⟩
 | .boxH pu esz x=>
  (match evV E F x with
   | some p=>(match (if pu then yca H p else some (p,H)) with
    | some (q,H')=>if q.cells.length=esz∧jK q.cells=true then some ⟨some (.v (.ptr H'.length 1 0 0)),none,H'++[⟨false,pu,esz,[q]⟩]⟩ else none
    | none=>none)
   | none=>none)
 | .build z parts=>(match ylv E F z parts with | some cs=>outV (.agg cs) H | none=>none)
 | .bSl pu esz z len parts=>
  if len=0 then outV .emp H else
  (match yhl E F pu esz (replicate len z) H parts with
   | some (rows,H')=>outV (.own H'.length 0 len len (some len)) (H'++[⟨false,pu,esz,rows⟩])
   | none=>none)
 | .buildN pu esz z len parts=>
  if len=0 then outV .emp H else
  (match yhl E F pu esz (replicate len z) H parts with
   | some (rows,H')=>outV (.own H'.length 0 len len none) (H'++[⟨false,pu,esz,rows⟩])
   | none=>none)
 | .bD esz z len parts=>
  if len=0 then outV .emp H else
  (match yhl E F true esz (replicate len z) H parts with
   | some (rows,H')=>outV (.data rows) H'
   | none=>none)
 | .load agg sz a=>
  (match ev E F a with
   | some (.bp s off)=>(match fget F s with
    | some (.box row)=>(match ygw agg sz row off with | some p=>outV p H | none=>none)
    | _=>none)
   | some (.v (.eptr rows i off))=>(match rows[i]? with
    | some row=>(match ygw agg sz row off with | some p=>outV p H | none=>none)
    | none=>none)
   | some (.v (.ptr id ext i off))=>(match H[id]? with
    | some b=>if b.rows.length=ext then (match b.rows[i]? with
        | some row=>(match ygw agg sz row off with | some p=>outV p H | none=>none)
        | none=>none) else none
    | none=>none)
   | _=>none)
 | .store sz a x=>
  (match evV E F x with
   | some p=>
    (match ev E F a with
     | some (.bp s off)=>(match fget F s with
       | some (.box row)=>(match yjZ row off sz p with | some row'=>some ⟨none,some (s,row'),H⟩ | none=>none)
       | _=>none)
     | some (.v (.ptr id ext i off))=>
       (match H[id]? with
        | some b0=>
         (match (if b0.pu then yca H p else some (p,H)) with
          | some (q,H')=>(match H'[id]? with
           | some b=>if b.rows.length=ext∧b.fz=false then (match b.rows[i]? with
            | some row=>(match yjZ row off sz q with
             | some row'=>some ⟨none,none,H'.set id { b with rows:=b.rows.set i row' }⟩
             | none=>none)
            | none=>none) else none
           | none=>none)
          | none=>none)
        | none=>none)
     | _=>none)
   | none=>none)
 | .bin op x y=>(match evV E F x,evV E F y with | some a,some b=>(match binV op a b with | some r=>outV r H | none=>none) | _,_=>none)
 | .eqB neg x y=>(match evV E F x,evV E F y with | some (.bool a),some (.bool b)=>outV (.bool (if neg then a !=b else a==b)) H | _,_=>none)
 | .eqA neg sz idx x y=>
  (match evV E F x,evV E F y with
   | some (.agg a),some (.agg b)=>if a.length=sz∧b.length=sz then (match eqL a b idx with | some r=>outV (.bool (if neg then !r else r)) H | none=>none) else none
   | _,_=>none)
 | .eqN neg x=>
  (match evV E F x with
   | some .nils=>outV (.bool (if neg then false else true)) H
   | some (.mt b)=>outV (.bool (if neg then !b else b)) H
   | some (.data (_::_)) | some (.own _ _ _ _ _)=>outV (.bool (if neg then true else false)) H
   | _=>none)
 | .un op x=>(match evV E F x with | some a=>(match unV op a with | some r=>outV r H | none=>none) | none=>none)
 | .conv k x=>(match evV E F x with | some (.int _ n)=>outV (.int k (k.wrap n)) H | _=>none)
 | .mkFn f first captured=>
  (match evs E F first,evs E F captured with
   | some a,some b=>outV (.fn f a b) H
   | _,_=>none)
 | .mkSl pu esz bytes z l c=>
  (match yey E F l,yey E F c with
   | some l,some c=>if 0≤l∧l≤c∧(c.toNat+64)*(bytes+1)≤room then outV (.own H.length 0 l.toNat c.toNat (some c.toNat)) (H++[⟨false,pu,esz,replicate c.toNat z⟩]) else none
   | _,_=>none)
 | .slc esz x lo hi mx=>
  (match evV E F x,nS E F lo,nS E F hi,nS E F mx with
   | some p,some l,some h,some m=>if m.isSome&&h.isNone then none else (match yix H esz l h m p with | some r=>outV r H | none=>none)
   | _,_,_,_=>none)
 | .fad off x=>
  (match ev E F x with
   | some (.bp s o)=>some ⟨some (.bp s (o+off)),none,H⟩
   | some (.v (.ptr id e i o))=>outV (.ptr id e i (o+off)) H
   | some (.v (.eptr rows i o))=>outV (.eptr rows i (o+off)) H
   | _=>none)
 | .fld agg sz off x=>(match evV E F x with | some (.agg cs)=>(match ygw agg sz (.agg cs) off with | some p=>outV p H | none=>none) | _=>none)
 | .iad esz x i=>
  (match evV E F x,yey E F i with
   | some (.data rows),some n=>if 0≤n∧n<rows.length then (match rows[n.toNat]? with
      | some row=>if row.cells.length=esz then outV (.eptr [row] 0 0) H else none
      | none=>none) else none
   | some (.own id lo len ext _),some n=>if 0≤n∧n<len then (match H[id]? with
      | some b=>if b.esz=esz then outV (.ptr id ext (lo+n.toNat) 0) H else none
      | none=>none) else none
   | some (.sub id ext r off m e),some n=>if 0≤n∧n<m∧e=esz then outV (.ptr id ext r (off+n.toNat*esz)) H else none
   | _,_=>none)
 | .iadA n esz x i=>
  (match ev E F x,yey E F i with
   | some (.bp s o),some j=>if 0≤j∧j<n then some ⟨some (.bp s (o+j.toNat*esz)),none,H⟩ else none
   | some (.v (.ptr id e r o)),some j=>if 0≤j∧j<n then outV (.ptr id e r (o+j.toNat*esz)) H else none
   | some (.v (.eptr rows r o)),some j=>if 0≤j∧j<n then outV (.eptr rows r (o+j.toNat*esz)) H else none
   | _,_=>none)
 | .idx agg n esz x i=>
  (match evV E F x,yey E F i with
   | some (.agg cs),some j=>if 0≤j∧j<n then (match ygw agg esz (.agg cs) (j.toNat*esz) with | some p=>outV p H | none=>none) else none
   | _,_=>none)
 | .ext x i=>(match evV E F x with | some (.tup vs)=>(match vs[i]? with | some p=>outV p H | none=>none) | _=>none)
 | .call f args=>
  (match evV E F f,evs E F args with
   | some g,some az=>(match ylw E call g az H with | some (r,H')=>outV r H' | none=>none)
   | _,_=>none)
 | .len x=>(match evV E F x with | some p=>(match lenV p with | some n=>outV (.int .i64 n) H | none=>none) | none=>none)
 | .cap x=>(match evV E F x with | some p=>(match capV p with | some n=>outV (.int .i64 n) H | none=>none) | none=>none)
 | .app pu esz bytes s x=>
  (match evV E F s,evV E F x with
   | some a,some b=>(match appV H pu esz bytes a b with | some (r,H')=>outV r H' | none=>none)
   | _,_=>none)
 | .appZ pu esz bytes z s n=>
  (match evV E F s,yey E F n with
   | some a,some k=>if 0≤k then (match appZ H pu esz bytes z a k.toNat with | some (r,H')=>outV r H' | none=>none) else none
   | _,_=>none)
 | .clr pu esz z x=>
  (match evV E F x with
   | some a=>(match clrV H pu esz z a with | some H'=>outV (.tup []) H' | none=>none)
   | _=>none)
 | .minmax mx l=>(match evs E F l with | some (p::ps)=>(match yul mx p ps with | some r=>outV r H | none=>none) | _=>none)
 | .nilchk x=>
  (match ev E F x with
   | some (.bp s o)=>some ⟨some (.bp s o),none,H⟩
   | some (.v (.ptr a b c d))=>outV (.ptr a b c d) H
   | some (.v (.eptr a b c))=>outV (.eptr a b c) H
   | some (.v (.fn (.func f) a b))=>outV (.fn (.func f) a b) H
   | _=>none)
 | .dfr n=>if E.dn n then outV (.tup []) H else none
 | .bad=>none
def ycK (F:aD):Option (Nat×Bool)→Option Bool
 | none=>some true
 | some (s,want)=>match fget F s with
  | some (.v (.bool b))=>some (b==want)
  | some (.v (.tup []))=>some false
  | _=>none
def noBp:aD→Nat→Bool
 | [],_=>true
 | (_,.bp s _)::r,d=>!(s==d)&&noBp r d
 | (_,.v _)::r,d=>noBp r d
 | (_,.box _)::r,d=>noBp r d
def nD:aD→Nat→aD
 | [],_=>[]
 | (k,x)::r,d=>(match x with
  | .bp s _=>if s=d then eR (nD r d) k else (k,x)::nD r d
  | _=>(k,x)::nD r d)
def ydT (F:aD):Option Nat→Option FV→Option aD
 | some d,some (.box row)=>some (aF (nD F d) d (.box row))
 | some d,some (.v p)=>some (aF F d (.v p))
 | some d,some (.bp s o)=>some (aF F d (.bp s o))
 | some d,none=>some (eR F d)
 | none,some (.box _)=>none
 | none,_=>some F
def jA (F:aD):Option (Nat×PV)→aD
 | some (s,row)=>aF F s (.box row)
 | none=>F
def yez (E:Env) (call:Nat→List PV→Hp→Option (PV×Hp)) (F:aD) (H:Hp) (o:AO):Option (aD×Hp):=
 match ycK F o.guard with
 | none=>none
 | some false=>(match o.dst with | some d=>some (aF F d (.v (.tup [])),H) | none=>some (F,H))
 | some true=>
  match yas E call F H o.op with
  | none=>none
  | some ⟨x,bx,H'⟩=>(ydT (jA F bx) o.dst x).map fun F'=>(F',H')
def ybo (E:Env) (call:Nat→List PV→Hp→Option (PV×Hp)):List AO→aD→Hp→Option (aD×Hp)
 | [],F,H=>some (F,H)
 | o::r,F,H=>match yez E call F H o with
  | some (F',H')=>ybo E call r F' H'
  | none=>none
def ygU (F:aD):Option Nat→Option FV→Option aD
 | some d,some fv=>some (aF F d fv)
 | some d,none=>some (eR F d)
 | none,some (.box _)=>none
 | none,_=>some F
def ygM (E:Env) (call:Nat→List PV→Hp→Option (PV×Hp)) (o:AO) (S:aD×Hp):Option (aD×Hp):=
 match ycK S.1 o.guard with
 | none=>none
 | some false=>(match o.dst with | some d=>some (aF S.1 d (.v (.tup [])),S.2) | none=>some S)
 | some true=>
  match yas E call S.1 S.2 o.op with
  | none=>none
  | some ⟨x,bx,H'⟩=>(ygU (jA S.1 bx) o.dst x).map fun F'=>(F',H')
structure FP where
 rd:List Nat
 wr:List Nat
 hr:List Nat
 hw:List Nat
 push:Bool
 all:Bool
 deriving Inhabited
def Opd.slots:Opd→List Nat
 | .t s=>[s]
 | _=>[]
def Jh:Option Opd→List Nat
 | some x=>x.slots
 | none=>[]
def qZ:List Opd→List Nat
 | []=>[]
 | x::r=>x.slots++qZ r
def Ji:List (Nat×Nat×Opd)→List Nat
 | []=>[]
 | (_,_,x)::r=>x.slots++Ji r
def Dn:List (Nat×Opd)→List Nat
 | []=>[]
 | (_,x)::r=>x.slots++Dn r
def eE:PV→List Nat
 | .own id _ _ _ _=>[id]
 | .ptr id _ _ _=>[id]
 | .sub id _ _ _ _ _=>[id]
 | _=>[]
def lI:List PV→List Nat
 | []=>[]
 | x::r=>eE x++lI r
def cO:PV→List Nat
 | .agg cs=>lI cs
 | x=>eE x
def fJ:List PV→List Nat
 | []=>[]
 | x::r=>cO x++fJ r
def kY (E:Env) (F:aD) (x:Opd):List Nat:=
 match ev E F x with
 | some (.v p)=>cO p
 | _=>[]
def nE (E:Env) (F:aD):List (Nat×Opd)→List Nat
 | []=>[]
 | (_,x)::r=>kY E F x++nE E F r
def rB (E:Env) (F:aD) (x:Opd):List Nat:=
 match ev E F x with
 | some (.bp s _)=>[s]
 | _=>[]
def vG (E:Env) (F:aD) (f:Opd) (az:List Opd):Bool:=
 match evV E F f,evs E F az with
 | some (.fn (.func n) first captured),some vs=>!E.rb n&&((fJ (first++vs++captured)).isEmpty&&(E.qui n||(match ybd [] (first++vs++captured) with | some (ps,_)=>(E.sum n ps).isSome | none=>false)))
 | _,_=>false
def aR (E:Env) (F:aD) (H:Hp):AOp→FP
 | .mv x | .eqN _ x | .un _ x | .conv _ x | .fld _ _ _ x | .ext x _ | .len x | .cap x=>⟨x.slots,[],[],[],false,false⟩
 | .boxL x=>⟨x.slots,[],[],[],false,false⟩
 | .slcA _ _ x=>⟨x.slots,[],[],[],false,false⟩
 | .mvD x=>⟨x.slots,[],[],kY E F x,false,false⟩
 | .pick c a b=>⟨c.slots++(a.slots++b.slots),[],[],[],false,false⟩
 | .aL _=>⟨[],[],[],[],false,false⟩
 | .aH _ _ _=>⟨[],[],[],[H.length],true,false⟩
 | .boxH _ _ x=>⟨x.slots,[],[],H.length::kY E F x,true,false⟩
 | .build _ ps=>⟨Ji ps,[],[],[],false,false⟩
 | .bSl _ _ _ len ps=>⟨Dn ps,[],[],(if len=0 then [] else H.length::nE E F ps),!(len==0),false⟩
 | .buildN _ _ _ len ps=>⟨Dn ps,[],[],(if len=0 then [] else H.length::nE E F ps),!(len==0),false⟩
 | .bD _ _ _ ps=>⟨Dn ps,[],[],nE E F ps,false,false⟩
 | .load _ _ a=>⟨a.slots++rB E F a,[],kY E F a,[],false,false⟩
 | .store _ a x=>⟨a.slots++(x.slots++rB E F a),rB E F a,[],kY E F a++kY E F x,false,false⟩
 | .bin _ x y | .eqB _ x y | .eqA _ _ _ x y=>⟨x.slots++y.slots,[],[],[],false,false⟩
 | .mkFn _ a b=>⟨qZ a++qZ b,[],[],[],false,false⟩
 | .mkSl _ _ _ _ l c=>⟨l.slots++c.slots,[],[],[H.length],true,false⟩
 | .slc _ x l h m=>⟨x.slots++(Jh l++(Jh h++Jh m)),[],kY E F x,[],false,false⟩
 | .fad _ x=>⟨x.slots++rB E F x,[],[],[],false,false⟩
 | .iad _ x i=>⟨x.slots++i.slots,[],kY E F x,[],false,false⟩
 | .iadA _ _ x i=>⟨x.slots++(i.slots++rB E F x),[],[],[],false,false⟩
 | .idx _ _ _ x i=>⟨x.slots++i.slots,[],[],[],false,false⟩
 | .call f az=>⟨f.slots++qZ az,[],[],[],!vG E F f az,!vG E F f az⟩
 | .app _ _ _ s x=>⟨s.slots++x.slots,[],[],H.length::(kY E F s++kY E F x),true,false⟩
 | .appZ _ _ _ _ s n=>⟨s.slots++n.slots,[],[],[H.length],true,false⟩
 | .clr _ _ _ x=>⟨x.slots,[],[],kY E F x,false,false⟩
 | .minmax _ l=>⟨qZ l,[],[],[],false,false⟩
 | .nilchk x=>⟨x.slots++rB E F x,[],[],[],false,false⟩
 | .dfr _=>⟨[],[],[],[],false,false⟩
 | .bad=>⟨[],[],[],[],true,true⟩
def Dp:Option (Nat×Bool)→List Nat
 | some (s,_)=>[s]
 | none=>[]
def ydd (E:Env) (F:aD) (H:Hp) (o:AO):FP:=
 match ycK F o.guard with
 | some true=>let p:=aR E F H o.op;⟨Dp o.guard++p.rd,o.dst.toList++p.wr,p.hr,p.hw,p.push,p.all⟩
 | _=>⟨Dp o.guard,o.dst.toList,[],[],false,false⟩
def jV:List Nat→List Nat→Bool
 | [],_=>false
 | x::r,l=>l.elem x||jV r l
def FP.heapy (p:FP):Bool:=p.push||p.all||!p.hr.isEmpty||!p.hw.isEmpty
def vH (p q:FP):Bool:=
 jV p.wr q.rd||jV p.wr q.wr||jV q.wr p.rd ||
 (p.all&&q.heapy)||(q.all&&p.heapy)||(p.push&&q.push)||jV p.hw q.hr||jV p.hw q.hw||jV q.hw p.hr
def sQ:Fn→Fn→Bool
 | .func n,.func m=>n==m
 | .yield n,.yield m=>n==m
 | f,g=>decide (f=g)
mutual
def jB:PV→PV→Bool
 | .bool a,.bool b=>a==b
 | .int k a,.int q b=>k==q&&a==b
 | .nilp,.nilp=>true
 | .ptr a b c d,.ptr a' b' c' d'=>a==a'&&(b==b'&&(c==c'&&d==d'))
 | .eptr r i o,.eptr r' i' o'=>gP r r'&&(i==i'&&o==o')
 | .nils,.nils=>true
 | .emp,.emp=>true
 | .mt a,.mt b=>a==b
 | .data r,.data r'=>gP r r'
 | .own a b c d e,.own a' b' c' d' e'=>a==a'&&(b==b'&&(c==c'&&(d==d'&&e==e')))
 | .sub a b c d e f,.sub a' b' c' d' e' f'=>a==a'&&(b==b'&&(c==c'&&(d==d'&&(e==e'&&f==f'))))
 | .fn f a b,.fn g a' b'=>sQ f g&&(gP a a'&&gP b b')
 | .nilf,.nilf=>true
 | .agg a,.agg b=>gP a b
 | .tup a,.tup b=>gP a b
 | _,_=>false
def gP:List PV→List PV→Bool
 | [],[]=>true
 | x::a,y::b=>jB x y&&gP a b
 | _,_=>false
end
def sR (a b:HB):Bool:=a.fz==b.fz&&(a.pu==b.pu&&(a.esz==b.esz&&gP a.rows b.rows))
def sS:Nat→Hp→List Nat
 | _,[]=>[]
 | i,_::s=>i::sS (i+1) s
def cV:Nat→Hp→Hp→List Nat
 | i,[],l=>sS i l
 | i,a::r,l=>(match l with
  | b::s=>if sR a b then cV (i+1) r s else i::cV (i+1) r s
  | []=>i::cV (i+1) r [])
def FP.tight (p:FP) (H H1:Hp):FP:=
 if p.all then ⟨p.rd,p.wr,List.range H.length,cV 0 H H1,true,false⟩ else p
def yjL (E:Env) (call:Nat→List PV→Hp→Option (PV×Hp)):List AO→aD→Hp→Option (aD×Hp×List FP)
 | [],F,H=>some (F,H,[])
 | o::r,F,H=>match ygM E call o (F,H) with
  | some (F',H')=>(match yjL E call r F' H' with
   | some (F'',H'',l)=>some (F'',H'',(ydd E F H o).tight H H'::l)
   | none=>none)
  | none=>none
def yid (l:List FP):List (Nat×Nat)→Bool
 | []=>true
 | (i,j)::r=>(match l[i]?,l[j]? with | some p,some q=>!vH p q | _,_=>false)&&yid l r
def ypT (o:AO):Option Nat:=
 match o.op with
 | .aL _ | .boxL _=>o.dst
 | _=>none
def yfk (d:Nat):List AO→Nat
 | []=>0
 | o::r=>(if o.dst=some d then 1 else 0)+yfk d r
def wS (F:aD) (all:List AO):List AO→Bool
 | []=>true
 | o::r=>(match ypT o with | some d=>noBp F d&&(fget F d).isNone&&(yfk d all==1) | none=>true)&&wS F all r
def nF (F:aD):List AO→aD
 | []=>F
 | o::r=>(match ypT o with | some d=>nF (eR (nD F d) d) r | none=>nF F r)
def nU:List Nat→Bool
 | []=>true
 | x::r=>!r.elem x&&nU r
def AT (s t0 t1 t2 t3 d0 d1 esz by_:Nat) (pu:Bool) (k:IntKind) (z:Int):List AO:=
 [⟨some t0,.mv (.t s),none⟩,⟨some t1,.mkSl pu esz by_ (.int k z) (.t t0) (.t t0),none⟩,⟨some t2,.mv (.t s),none⟩,⟨some t3,.mkSl pu esz by_ (.int k z) (.t t2) (.t t2),none⟩,⟨some d0,.mv (.t t1),none⟩,⟨some d1,.mv (.t t3),none⟩]
def Jj:List (Nat×Nat):=[(0,2),(1,2),(0,3),(1,3)]
def Dq:List (Nat×Nat):=[(0,2),(1,2),(0,3),(1,3),(2,4),(3,4)]
def Dr (l:List AO) (pairs:List (Nat×Nat)):Bool:=
 match l with
 | [⟨some t0,.mv (.t s),none⟩,⟨some t1,.mkSl pu esz by_ (.int k z) (.t a0) (.t b0),none⟩,⟨some t2,.mv (.t s2),none⟩,⟨some t3,.mkSl pu2 esz2 by2 (.int k2 z2) (.t a2) (.t b2),none⟩,⟨some d0,.mv (.t a1),none⟩,⟨some d1,.mv (.t a3),none⟩]=>
  (pairs==Jj||pairs==Dq)&&(nU [s,t0,t1,t2,t3,d0,d1]&&(a0==t0&&(b0==t0&&(s2==s&&(a2==t2&&(b2==t2&&(a1==t1&&(a3==t3&&(pu2==pu&&(esz2==esz&&(by2==by_&&(decide (k2=k)&&z2==z))))))))))))
 | _=>false
def yiz (E:Env) (call:Nat→List PV→Hp→Option (PV×Hp)) (l:List AO) (pairs:List (Nat×Nat)) (F:aD) (H:Hp):Option (aD×Hp):=
 match pairs with
 | []=>ybo E call l F H
 | _::_=>bif Dr l pairs then ybo E call l F H else (match yjL E call l (nF F l) H with
  | some (F',H',ps)=>if yid ps pairs=true∧wS (nF F l) l l=true then some (F',H') else none
  | none=>none)
inductive Ex where
 | norm
 | exit (id:Nat)
 | ret
 | brk (k id:Nat)
 deriving DecidableEq,Inhabited
def yBr (F:aD) (H:Hp):ARes→Option PV
 | .tmp t=>(match fget F t with | some (.v p)=>some p | _=>none)
 | .cell a agg sz=>(match fget F a with
  | some (.box row)=>ygw agg sz row 0
  | some (.v (.ptr id ext i off))=>(match H[id]? with
   | some b=>if b.rows.length=ext then (match b.rows[i]? with | some row=>ygw agg sz row off | none=>none) else none
   | none=>none)
  | _=>none)
def ykD (F:aD) (H:Hp):List ARes→Option (List PV)
 | []=>some []
 | x::r=>match yBr F H x with
  | some p=>(match ykD F H r with | some ps=>some (p::ps) | none=>none)
  | none=>none
def sU:List PV→PV
 | [x]=>x
 | l=>.tup l
def iX:Nat→List PV→aD
 | _,[]=>[]
 | i,x::r=>(i,.v x)::iX (i+1) r
def jL:aD→aD
 | []=>[]
 | (k,.v p)::r=>(k,.v p)::jL r
 | (k,_)::r=>eR (jL r) k
def ypg:aD→List Nat→List PV→Option aD
 | F,[],[]=>some F
 | F,s::r,x::l=>ypg (aF F s (.v x)) r l
 | _,_,_=>none
def Env.push (E:Env) (c:LCtx) (h:Nat→List PV→Hp→Option (Option Nat×Hp)):Env:=
 { E with yn:=E.yn+1,ctx:=fun k=>if k=E.yn then some c else E.ctx k,yl:=fun y k az H=>if k=E.yn then h y az H else E.yl y k az H }
def Env.ats (E:Env) (y:Nat):Env:={ E with yn:=y }
mutual
def ybU (C:Fn→Bool) (I:Nat→Bool):PV→Bool
 | .fn f a b=>C f&&(ybg C I a&&ybg C I b)
 | .agg cs=>ybg C I cs
 | .tup ps=>ybg C I ps
 | .ptr id _ _ _=>I id
 | .own id _ _ _ _=>I id
 | .sub id _ _ _ _ _=>I id
 | _=>true
def ybg (C:Fn→Bool) (I:Nat→Bool):List PV→Bool
 | []=>true
 | x::r=>ybU C I x&&ybg C I r
end
def noY (K:Nat):Fn→Bool
 | .yield k=>!(Nat.beq k K)
 | _=>true
def memB:List Nat→Nat→Bool
 | [],_=>false
 | k::r,n=>bif Nat.beq k n then true else memB r n
def gF (C:Fn→Bool) (I:Nat→Bool):Hp→Bool
 | []=>true
 | b::r=>ybg C I b.rows&&gF C I r
def badY (K n0:Nat) (D:List Nat):Nat→Hp→List Nat
 | _,[]=>[]
 | i,b::r=>bif Nat.ble n0 i&&!(ybg (noY K) (fun id=>!memB D id) b.rows) then i::badY K n0 D (i+1) r else badY K n0 D (i+1) r
def Nh (K n0:Nat) (H:Hp):Nat→List Nat→List Nat
 | 0,D=>D
 | n+1,D=>Nh K n0 H n (badY K n0 D 0 H)
def iN (n0:Nat) (D:List Nat):Nat→Hp→Hp
 | _,[]=>[]
 | i,b::r=>(bif Nat.ble n0 i&&memB D i then ⟨b.fz,b.pu,b.esz,[]⟩ else b)::iN n0 D (i+1) r
def clrY (K n0:Nat) (H:Hp):Option Hp:=
 match badY K n0 [] 0 H with
 | []=>bif gF (noY K) (fun _=>true) H then some H else none
 | d::D=>
  let D:=Nh K n0 H 3 (d::D);let H2:=iN n0 D 0 H
  bif gF (noY K) (fun id=>!(Nat.ble n0 id&&memB D id)) H2 then some H2 else none
def jW (I:Nat→Bool):aD→Bool
 | []=>true
 | (_,.v p)::r=>ybU (fun _=>true) I p&&jW I r
 | (_,.box p)::r=>ybU (fun _=>true) I p&&jW I r
 | (_,.bp _ _)::r=>jW I r
def sV (I:Nat→Bool):Hp→Bool
 | []=>true
 | b::r=>(b.pu||ybg (fun _=>true) I b.rows)&&sV I r
mutual
def Ni:PV→List Nat
 | .ptr id _ _ _=>[id]
 | .own id _ _ _ _=>[id]
 | .sub id _ _ _ _ _=>[id]
 | .fn _ a b=>Ds a++Ds b
 | .agg l=>Ds l
 | .tup l=>Ds l
 | _=>[]
def Ds:List PV→List Nat
 | []=>[]
 | x::r=>Ni x++Ds r
end
def Jk:aD→List Nat
 | []=>[]
 | (_,.v p)::r=>Ni p++Jk r
 | (_,.box p)::r=>Ni p++Jk r
 | (_,.bp _ _)::r=>Jk r
def Nj (D:List Nat):Nat→Hp→List Nat
 | _,[]=>[]
 | i,b::r=>bif b.pu||memB D i then Nj D (i+1) r else Ds b.rows++Nj D (i+1) r
def Nk (l:List Nat):List Nat→List Nat
 | []=>[]
 | x::r=>bif memB l x then Nk l r else x::Nk l r
def Nl (F:aD) (H:Hp):Nat→List Nat→List Nat
 | 0,D=>D
 | k+1,D=>Nl F H k (Nk (Jk F++Nj D 0 H) D)
def Nm (n:Nat):Nat→List Nat
 | 0=>[]
 | k+1=>n::Nm (n+1) k
def pL (D:List Nat) (n:Nat):Nat→Nat
 | 0=>n
 | k+1=>bif memB D (n+k) then pL D n k else n+k+1
def oO (F:aD) (n:Nat) (H:Hp):Hp:=
 let D:=Nl F H 4 (Nm n (H.length-n));let m:=pL D n (H.length-n);let H2:=(iN n D 0 H).take m
 bif jW (fun id=>Nat.blt id m&&!(Nat.ble n id&&memB D id)) F&&sV (fun id=>Nat.blt id m&&!(Nat.ble n id&&memB D id)) H2 then H2 else H
def Nn:AOp→Option (List Nat)
 | .mv x=>some x.slots
 | .call f az=>some (f.slots++qZ az)
 | _=>none
def hdNd:List AO→List Nat→Option (List Nat)
 | [],_=>some []
 | o::r,w=>match o.guard,Nn o.op,hdNd r (o.dst.toList++w) with
  | none,some l,some n=>some ((l.filter fun s=>!memB w s)++n)
  | _,_,_=>none
def lJ:AC→List Nat
 | .block _ (.seq (.ops l _ fg) _)=>match hdNd l [] with
  | some n=>(fg++l.filterMap AO.dst).filter fun s=>!memB n s
  | none=>fg.filter fun s=>l.all fun o=>match o.dst with | some d=>Nat.blt d s | none=>true
 | _=>[]
mutual
def exec:Env→Nat→AC→aD→Hp→Option (Ex×aD×Hp)
 | _,0,_,_,_=>none
 | E,n+1,c,F,H=>
  match c with
  | .skip=>some (.norm,F,H)
  | .ops l pairs forget=>(match yiz E (ybu E n) l pairs F H with
   | some (F',H')=>some (.norm,fdels F' forget,H')
   | none=>none)
  | .seq a b=>(match exec E n a F H with
   | some (.norm,F',H')=>exec E n b F' H'
   | r=>r)
  | .cond x a b=>(match evV E F x with
   | some (.bool true)=>exec E n a F H
   | some (.bool false)=>exec E n b F H
   | _=>none)
  | .block id b=>(match exec E n b F H with
   | some (.exit i,F',H')=>if i=id then some (.norm,F',H') else some (.exit i,F',H')
   | r=>r)
  | .loop b=>(match exec E n b F H with
   | some (.norm,F',H')=>exec E n (.loop b) F' H'
   | r=>r)
  | .lG b=>(match exec E n b F H with
   | some (.norm,F',H')=>exec E n (.lG b) (fdels F' (lJ b)) (oO (fdels F' (lJ b)) H.length H')
   | r=>r)
  | .exit id=>some (.exit id,F,H)
  | .ret=>some (.ret,F,H)
  | .bad=>none
  | .rangeF g ps az bd=>
   (match evV E F g with
    | some (.fn (.func f) first cap)=>(match E.fns f with
     | some fn=>
      if (first++[PV.fn (.yield E.yn) [] []]++cap).length=fn.nparams∧fn.results.length=0 then
       (match exec (E.push ⟨jL F,ps,az,bd⟩ fun y vs H=>(match ypg (jL F) ps vs with
         | some F1=>(match exec (E.ats y) n az F1 H with
          | some (.norm,F2,H2)=>(match exec (E.ats y) n bd F2 H2 with
           | some (.norm,_,H3)=>some (none,H3)
           | some (.exit i,_,H3)=>some (some i,H3)
           | _=>none)
          | _=>none)
         | none=>none)) n fn.body (iX 0 (first++[PV.fn (.yield E.yn) [] []]++cap)) H with
        | some (.norm,_,H') | some (.ret,_,H')=>(match clrY E.yn H.length H' with | some H2=>some (.norm,F,H2) | none=>none)
        | some (.brk k i,_,H')=>if k=E.yn then (match clrY E.yn H.length H' with | some H2=>some (.exit i,F,H2) | none=>none) else none
        | _=>none) else none
     | none=>none)
    | _=>none)
  | .yret c pre d y args e fgt=>
   (match yiz E (ybu E n) pre [] F H with
    | some (F1,H1)=>(match evV E F1 y,evs E F1 args with
     | some (.fn (.yield k) [] []),some vs=>(match E.yl E.yn k vs H1 with
      | some (none,H2)=>some (.norm,fdels (aF (aF F1 d (.v (.bool true))) e (.v (.bool false))) fgt,H2)
      | some (some i,H2)=>some (.brk k i,aF (aF F1 d (.v (.bool false))) e (.v (.bool true)),H2)
      | none=>none)
     | _,_=>exec E n c F H)
    | none=>none)
def ybu:Env→Nat→Nat→List PV→Hp→Option (PV×Hp)
 | _,0,_,_,_=>none
 | E,n+1,f,args,H=>
  match E.effx f args H with
  | some x=>some x
  | none=>match E.fns f with
   | some fn=>if args.length=fn.nparams then
    (match exec E n fn.body (iX 0 args) H with
     | some (.norm,F',H') | some (.ret,F',H')=>(match ykD F' H' fn.results with
      | some ps=>some (sU ps,H')
      | none=>none)
     | _=>none) else none
   | none=>none
end
end Go.Pf
namespace Go.Pf
open Go Go.RowKit
structure Bel (B:Nat) (w w':World):Prop extends Below B w w' where
 drawn:w.drawn≤w'.drawn
theorem Bel.refl (B:Nat) (w:World):Bel B w w:=⟨Below.refl _ _,bW _⟩
theorem Bel.alloc {B:Nat} {a w:World} (h:Bel B a w) (hB:B≤w.heap.size) (o:Obj):Bel B a (w.alloc o):=⟨h.toBelow.alloc hB o,h.drawn⟩
def At (w:World) (b o:Nat) (vs:List Value):Prop:=∀ j u,vs[j]?=some u→w.cell? ⟨b,o+j,none⟩=some u
def inK (k:IntKind) (n:Int):Prop:=k.min≤n∧n≤k.max
mutual
def RC (I:Nat→Prop) (w:World):PV→List Value→Prop
 | .bool b,vs=>vs=[.bool b]
 | .int k n,vs=>vs=[.int k n]∧inK k n
 | .data rows,vs=>∃ a len cap,vs=[.slice a len cap]∧len=rows.length∧len≤cap∧cap≤maxLen ∧
  (rows=[]∨∃ b o esz,a=some ⟨b,o,none⟩∧I b∧0<esz∧dN I w rows esz b o)
 | .agg cs,vs=>ya5 I w cs vs
 | _,_=>False
def ya5 (I:Nat→Prop) (w:World):List PV→List Value→Prop
 | [],vs=>vs=[]
 | x::r,vs=>∃ v vr,vs=v::vr∧x.one=true∧RC I w x [v]∧ya5 I w r vr
def dN (I:Nat→Prop) (w:World):List PV→Nat→Nat→Nat→Prop
 | [],_,_,_=>True
 | x::r,esz,b,o=>(∃ vs,vs.length=esz∧RC I w x vs∧At w b o vs)∧dN I w r esz b (o+esz)
end
def WQ (I:Nat→Prop) (w:World) (rows:List PV) (i off:Nat) (v:Value):Prop:=
 ∃ b o esz,v=.pointer (some ⟨b,o+i*esz+off,none⟩)∧I b∧0<esz∧i<rows.length∧dN I w rows esz b o
def eU (I:Nat→Prop) (w:World):PV→Value→Prop
 | .agg cs,v=>∃ vs:List Value,v=.agg vs.toArray∧ya5 I w cs vs
 | .tup _,_=>False
 | .nils,v=>v=.slice none 0 0
 | .eptr rows i off,v=>WQ I w rows i off v
 | x,v=>RC I w x [v]
def fW (I:Nat→Prop) (w:World):List PV→List Value→Prop
 | [],vs=>vs=[]
 | x::r,vs=>∃ v vr,vs=v::vr∧eU I w x v∧fW I w r vr
def VP (I:Nat→Prop) (w:World):PV→Value→Prop
 | .tup ps,v=>∃ vs:List Value,v=.tuple vs.toArray∧fW I w ps vs
 | x,v=>eU I w x v
structure Gh where
 ρ:Nat→Option (Nat×Nat)
 β:Nat→Option Nat
 I:Nat→Prop
 lam:Nat→Option Nat:=fun _=>none
def Gh.tr (g:Gh):Fn→Fn
 | .yield k=>.yield ((g.lam k).getD 0)
 | f=>f
def Gh.okF (g:Gh):Fn→Prop
 | .yield k=>(g.lam k).isSome=true
 | _=>True
def mK (lo c ext:Nat):Option Nat→Prop
 | some _=>lo+c≤ext
 | none=>ext≤lo+c
def pM (g:Gh) (H:Hp) (w:World) (id lo len ext:Nat) (cap:Option Nat) (v:Value):Prop:=
 ∃ hb a c,H[id]?=some hb∧ext≤hb.rows.length∧v=.slice (some a) len c∧len≤c∧c≤maxLen∧(∀ c0,cap=some c0→c=c0) ∧
  (hb.rows.length=ext→∃ b o,g.ρ id=some (b,o)∧lo+len≤ext∧(c≠0→a=⟨b,o+lo*hb.esz,none⟩) ∧
   mK lo c ext cap ∧
   ∃ (cur:Array Value) (T:TypeId),w.heap[b]?=some (Obj.cells cur T (0,0))∧o+(lo+c)*hb.esz≤cur.size)
def PtrR (g:Gh) (H:Hp) (id ext i off:Nat) (v:Value):Prop:=
 ∃ hb a,H[id]?=some hb∧ext≤hb.rows.length∧v=.pointer (some a) ∧
  (hb.rows.length=ext→∃ b o,g.ρ id=some (b,o)∧i<ext∧a=⟨b,o+i*hb.esz+off,none⟩)
def No (g:Gh) (w:World) (rows:List PV) (i off:Nat) (v:Value):Prop:=
 WQ g.I w rows i off v
mutual
def VR (g:Gh) (H:Hp) (w:World):PV→Value→Prop
 | .bool b,v=>v=.bool b
 | .int k n,v=>v=.int k n∧inK k n
 | .nilp,v=>v=.pointer none
 | .ptr id ext i off,v=>PtrR g H id ext i off v
 | .eptr rows i off,v=>No g w rows i off v
 | .nils,v=>v=.slice none 0 0
 | .emp,v=>∃ a,v=.slice a 0 0
 | .mt b,v=>∃ a c,v=.slice a 0 c∧c≤maxLen∧a.isNone=b
 | .data rows,v=>RC g.I w (.data rows) [v]
 | .own id lo len ext cap,v=>pM g H w id lo len ext cap v
 | .sub id ext i off n _,v=>∃ a,PtrR g H id ext i off (.pointer (some a))∧v=.slice (some a) n n∧n≤16777216
 | .fn f a b,v=>∃ az bs:List Value,v=.func (g.tr f) az.toArray bs.toArray∧bH g H w a az∧bH g H w b bs∧g.okF f
 | .nilf,v=>v=.nilFunc
 | .agg cs,v=>∃ vs:List Value,v=.agg vs.toArray∧bM g H w cs vs
 | .tup ps,v=>∃ vs:List Value,v=.tuple vs.toArray∧bH g H w ps vs
def bH (g:Gh) (H:Hp) (w:World):List PV→List Value→Prop
 | [],vs=>vs=[]
 | x::r,vs=>∃ v vr,vs=v::vr∧VR g H w x v∧bH g H w r vr
def bM (g:Gh) (H:Hp) (w:World):List PV→List Value→Prop
 | [],vs=>vs=[]
 | x::r,vs=>∃ v vr,vs=v::vr∧x.one=true∧VR g H w x v∧bM g H w r vr
end
def bA (g:Gh) (H:Hp) (w:World):PV→List Value→Prop
 | .agg cs,vs=>bM g H w cs vs
 | x,vs=>x.one=true∧∃ v,vs=[v]∧VR g H w x v
def eI (g:Gh) (H:Hp) (w:World):List PV→Nat→Nat→Nat→Prop
 | [],_,_,_=>True
 | x::r,esz,b,o=>(∃ vs,vs.length=esz∧bA g H w x vs∧At w b o vs)∧eI g H w r esz b (o+esz)
structure BlkR (g:Gh) (H:Hp) (w:World) (id:Nat) (hb:HB) (b o:Nat):Prop where
 at_:g.ρ id=some (b,o)
 esz:0<hb.esz
 cells:∃ (cur:Array Value) (T:TypeId),w.heap[b]?=some (Obj.cells cur T (0,0))∧o+hb.rows.length*hb.esz≤cur.size
 rows:eI g H w hb.rows hb.esz b o
 pure:hb.pu=true→dN g.I w hb.rows hb.esz b o
 fz:hb.fz=true→g.I b
 live:hb.fz=false→¬g.I b
def AU (g:Gh) (H:Hp) (w:World) (row:PV) (b:Nat):Prop:=
 ¬g.I b∧∃ (cur:Array Value) (T:TypeId),w.heap[b]?=some (Obj.cells cur T (0,0))∧bA g H w row cur.toList
def bR (g:Gh) (H:Hp) (w:World) (tmps:Array Value) (s:Nat):FV→Prop
 | .v p=>VR g H w p (tmps.getD s undef)
 | .box row=>∃ b,g.β s=some b∧tmps.getD s undef=.pointer (some ⟨b,0,none⟩)∧AU g H w row b
 | .bp s' off=>∃ b,g.β s'=some b∧tmps.getD s undef=.pointer (some ⟨b,off,none⟩)
structure Rel (E:Env) (nt:Nat) (g:Gh) (F:aD) (H:Hp) (tmps:Array Value) (w:World):Prop where
 size:nt≤tmps.size
 frame:∀ s fv,fget F s=some fv→bR g H w tmps s fv
 heap:∀ id hb,H[id]?=some hb→∃ b o,BlkR g H w id hb b o
 dist:∀ id id' hb b o b' o',H[id]?=some hb→hb.fz=false→id≠id'→g.ρ id=some (b,o)→g.ρ id'=some (b',o')→b≠b'
 rsome:∀ id b o,g.ρ id=some (b,o)→id<H.length
 bdist:∀ s s' b,g.β s=some b→g.β s'=some b→s=s'
 brho:∀ s b id o,g.β s=some b→g.ρ id=some (b,o)→False
 bimm:∀ s b,g.β s=some b→¬g.I b∧b<w.heap.size
 imm:∀ b,g.I b→b<w.heap.size
 glob:∀ n x,E.glob n=some x→g.I n∧∃ vs,0<vs.length∧RC g.I w x vs∧At w n 0 vs
theorem Rel.env {E E':Env} {nt:Nat} {g:Gh} {F:aD} {H:Hp} {tmps:Array Value} {w:World} (e:E'.glob=E.glob) (h:Rel E nt g F H tmps w):Rel E' nt g F H tmps w:=
 ⟨h.size,h.frame,h.heap,h.dist,h.rsome,h.bdist,h.brho,h.bimm,h.imm,fun n x hx=>h.glob n x (by rw [← e];exact hx)⟩
def kL (g:Gh) (b:Nat):Prop:=∃ s,g.β s=some b
def eY (g g':Gh) (H H':Hp):Prop:=
 ∀ id hb,H[id]?=some hb→∃ hb',H'[id]?=some hb'∧hb'.esz=hb.esz∧hb'.pu=hb.pu ∧
  (hb.rows.length<hb'.rows.length∨(hb.rows.length=hb'.rows.length∧g'.ρ id=g.ρ id))
theorem eY.refl (g:Gh) (H:Hp):eY g g H H:=fun _ hb h=>⟨hb,h,rfl,rfl,.inr ⟨rfl,rfl⟩⟩
theorem eY.trans {a b c:Gh} {H1 H2 H3:Hp} (h:eY a b H1 H2) (k:eY b c H2 H3):eY a c H1 H3:=by
 intro id hb e;obtain ⟨hb2,e2,z2,p2,l2⟩:=h id hb e;obtain ⟨hb3,e3,z3,p3,l3⟩:=k id hb2 e2;refine ⟨hb3,e3,z3.trans z2,p3.trans p2,?_⟩;rcases l2 with l2 | ⟨l2,r2⟩<;>rcases l3 with l3 | ⟨l3,r3⟩
 ·exact .inl (by omega)
 ·exact .inl (by omega)
 ·exact .inl (by omega)
 ·exact .inr ⟨by omega,r3.trans r2⟩
theorem At.keep {w w':World} {b o:Nat} {vs:List Value} (h:At w b o vs) (e:w'.heap[b]?=w.heap[b]?):At w' b o vs:=by intro j u hj;have:=h j u hj;simp only [World.cell?] at this ⊢;rw [e];exact this
def zL (I I':Nat→Prop) (w w':World):Prop:=∀ b,I b→I' b∧w'.heap[b]?=w.heap[b]?
mutual
theorem jM {I I':Nat→Prop} {w w':World} (k:zL I I' w w'):∀ (x:PV) (vs:List Value),RC I w x vs→RC I' w' x vs
 | .bool b,vs,h=>by simpa only [RC] using h
 | .int q n,vs,h=>by simpa only [RC] using h
 | .data rows,vs,h=>by simp only [RC] at h ⊢;obtain ⟨a,len,cap,e,l1,l2,l3,h⟩:=h;refine ⟨a,len,cap,e,l1,l2,l3,h.imp id ?_⟩;rintro ⟨b,o,esz,ea,hI,hz,hr⟩;exact ⟨b,o,esz,ea,(k b hI).1,hz,Jl k rows esz b o hI hr⟩
 | .agg cs,vs,h=>by simp only [RC] at h ⊢;exact Np k cs vs h
 | .nilp,vs,h | .nils,vs,h | .emp,vs,h | .mt _,vs,h | .nilf,vs,h=>by simp [RC] at h
 | .ptr ..,vs,h | .eptr ..,vs,h | .own ..,vs,h | .sub ..,vs,h | .fn ..,vs,h | .tup ..,vs,h=>by simp [RC] at h
theorem Np {I I':Nat→Prop} {w w':World} (k:zL I I' w w'):∀ (l:List PV) (vs:List Value),ya5 I w l vs→ya5 I' w' l vs
 | [],vs,h=>by simpa only [ya5] using h
 | x::r,vs,h=>by simp only [ya5] at h ⊢;obtain ⟨v,vr,e,o,h1,h2⟩:=h;exact ⟨v,vr,e,o,jM k x [v] h1,Np k r vr h2⟩
theorem Jl {I I':Nat→Prop} {w w':World} (k:zL I I' w w'):∀ (l:List PV) (esz b o:Nat),I b→dN I w l esz b o→dN I' w' l esz b o
 | [],_,_,_,_,_=>by simp only [dN]
 | x::r,esz,b,o,hI,h=>by simp only [dN] at h ⊢;obtain ⟨⟨vs,hl,h1,h2⟩,h3⟩:=h;exact ⟨⟨vs,hl,jM k x vs h1,h2.keep (k b hI).2⟩,Jl k r esz b (o+esz) hI h3⟩
end
theorem bI (F:aD) (s k:Nat) (y:FV):fget (aF F s y) k=if k=s then some y else fget F k:=by
 induction F with
 | nil=>
  simp only [aF,fget]
  by_cases h:k=s
  ·simp [h]
  ·simp [h,Ne.symm h]
 | cons a r ih=>
  obtain ⟨j,x⟩:=a;simp only [aF]
  by_cases h1:s<j
  ·simp only [h1,if_true,fget]
   by_cases h:k=s
   ·simp [h]
   ·simp [h,Ne.symm h]
  ·simp only [h1,if_false]
   by_cases h2:j=s
   ·subst h2;simp only [if_true,fget]
    by_cases h:k=j
    ·simp [h]
    ·simp [h,Ne.symm h]
   ·simp only [h2,if_false,fget,ih]
    by_cases h:j=k
    ·subst h;simp [h2]
    ·simp [h]
theorem wT (F:aD) (s k:Nat):fget (eR F s) k=if k=s then none else fget F k:=by
 induction F with
 | nil=>simp [eR,fget]
 | cons a r ih=>
  obtain ⟨j,x⟩:=a;simp only [eR]
  by_cases h2:j=s
  ·subst h2;simp only [if_true,ih,fget]
   by_cases h:k=j
   ·simp [h]
   ·simp [h,Ne.symm h]
  ·simp only [h2,if_false,fget,ih]
   by_cases h:j=k
   ·subst h;simp [h2]
   ·simp [h]
theorem Ge (l:List Nat):∀ (F:aD) (k:Nat) (y:FV),fget (fdels F l) k=some y→fget F k=some y:=by
 induction l with
 | nil=>intro F k y h;exact h
 | cons s l ih=>
  intro F k y h;have:=ih (eR F s) k y h;rw [wT] at this;split at this
  ·cases this
  ·exact this
theorem Gf {d k:Nat}:∀ (F:aD),noBp F d=true→noBp (eR F k) d=true
 | [],_=>rfl
 | (j,y)::r,h=>by
  simp only [eR];split
  ·exact Gf r (by cases y<;>simp [noBp] at h<;>first | exact h | exact h.2)
  ·cases y<;>simp [noBp] at h ⊢ <;> first | exact Gf r h | exact ⟨h.1,Gf r h.2⟩
theorem Jm (F:aD) (d:Nat):∀ s x,fget (nD F d) s=some x→fget F s=some x:=by
 induction F with
 | nil=>intro s x h;exact h
 | cons a r ih=>
  obtain ⟨k,y⟩:=a;have keep:∀ s x,fget ((k,y)::nD r d) s=some x→fget ((k,y)::r) s=some x:=by
   intro s x h;simp only [fget] at h ⊢;split at h
   ·rename_i e;rw [WM e];exact h
   ·rename_i e;rw [WN e];exact ih s x h
  intro s x h
  cases y with
  | bp s' o=>
   simp only [nD] at h;split at h
   ·rw [wT] at h;split at h
    ·cases h
    ·rename_i e;simp only [fget];rw [WN (fun e2=>e e2.symm)];exact ih s x h
   ·exact keep s x h
  | v p=>exact keep s x h
  | box r'=>exact keep s x h
theorem WR (F:aD) (d:Nat):noBp (nD F d) d=true:=by
 induction F with
 | nil=>rfl
 | cons a r ih=>
  obtain ⟨k,x⟩:=a
  cases x with
  | bp s o=>
   simp only [nD];split
   ·exact Gf _ ih
   ·rename_i hne;simp [noBp,ih,hne]
  | v p=>simpa only [nD,noBp] using ih
  | box r=>simpa only [nD,noBp] using ih
theorem js (F:aD) (d:Nat) (h:noBp F d=true):nD F d=F:=by
 induction F with
 | nil=>rfl
 | cons a r ih=>
  obtain ⟨k,x⟩:=a
  cases x with
  | bp s o =>simp only [noBp,bO,jR,beq_eq_false_iff_ne,ne_eq] at h;simp only [nD];rw [WN h.1,ih h.2]
  | v p=>simp only [noBp] at h;simp only [nD,ih h]
  | box r=>simp only [noBp] at h;simp only [nD,ih h]
structure On (g g':Gh) (H H':Hp) (w w':World):Prop where
 keeps:zL g.I g'.I w w'
 hext:eY g g' H H'
 shape:∀ (b:Nat) (cur:Array Value) (T:TypeId),w.heap[b]?=some (Obj.cells cur T (0,0))→∃ cur':Array Value,w'.heap[b]?=some (Obj.cells cur' T (0,0))∧cur'.size=cur.size
 lam:g'.lam=g.lam
theorem On.refl (g:Gh) (H:Hp) (w:World):On g g H H w w:=⟨fun _ h=>⟨h,rfl⟩,eY.refl g H,fun _ cur _ h=>⟨cur,h,rfl⟩,rfl⟩
theorem Gh.okF_lam {g g':Gh} (e:∀ k l,g.lam k=some l→g'.lam k=some l) {f:Fn} (h:g.okF f):g'.okF f∧g'.tr f=g.tr f:=by
 cases f with
 | yield k =>simp only [Gh.okF] at h ⊢;obtain ⟨l,hl⟩:=wH.1 h;have h2:=e k l hl;exact ⟨by rw [h2];rfl,by simp only [Gh.tr];rw [h2,hl]⟩
 | _=>exact ⟨trivial,rfl⟩
theorem On.trans {a b c:Gh} {H1 H2 H3:Hp} {w1 w2 w3:World} (h:On a b H1 H2 w1 w2) (k:On b c H2 H3 w2 w3):On a c H1 H3 w1 w3:=by
 refine ⟨fun i hi=>?_,h.hext.trans k.hext,fun i cur T e=>?_,k.lam.trans h.lam⟩
 ·obtain ⟨h1,h2⟩:=h.keeps i hi;obtain ⟨h3,h4⟩:=k.keeps i h1;exact ⟨h3,h4.trans h2⟩
 ·obtain ⟨c1,e1,s1⟩:=h.shape i cur T e;obtain ⟨c2,e2,s2⟩:=k.shape i c1 T e1;exact ⟨c2,e2,s2.trans s1⟩
theorem jt {g g':Gh} {H H':Hp} {w w':World} (k:On g g' H H' w w') {id lo len ext:Nat} {cap:Option Nat} {v:Value} (h:pM g H w id lo len ext cap v):pM g' H' w' id lo len ext cap v:=by
 obtain ⟨hb,a,c,e,hx,hv,hc,hm,hcc,hr⟩:=h;obtain ⟨hb',e',hz,hp,hl⟩:=k.hext id hb e;refine ⟨hb',a,c,e',?_,hv,hc,hm,hcc,?_⟩
 ·rcases hl with hl | ⟨hl,_⟩<;>omega
 ·intro hext;have hsame:hb.rows.length=hb'.rows.length∧g'.ρ id=g.ρ id:=by
   rcases hl with hl|hl
   ·omega
   ·exact hl
  obtain ⟨b,o,hρ,hle,ha,hcap,cur,T,hh,hfit⟩:=hr (by omega);obtain ⟨cur',hh',hs⟩:=k.shape b cur T hh;refine ⟨b,o,hsame.2.trans hρ,hle,?_,hcap,cur',T,hh',?_⟩
  ·rw [hz];exact ha
  ·rw [hz,hs];exact hfit
theorem WS {g g':Gh} {H H':Hp} {w w':World} (k:On g g' H H' w w') {id ext i off:Nat} {v:Value} (h:PtrR g H id ext i off v):PtrR g' H' id ext i off v:=by
 obtain ⟨hb,a,e,hx,hv,hr⟩:=h;obtain ⟨hb',e',hz,hp,hl⟩:=k.hext id hb e;refine ⟨hb',a,e',?_,hv,?_⟩
 ·rcases hl with hl | ⟨hl,_⟩<;>omega
 ·intro hext;have hsame:hb.rows.length=hb'.rows.length∧g'.ρ id=g.ρ id:=by
   rcases hl with hl|hl
   ·omega
   ·exact hl
  obtain ⟨b,o,hρ,hi,ha⟩:=hr (by omega);exact ⟨b,o,hsame.2.trans hρ,hi,by rw [hz];exact ha⟩
theorem ju {g g':Gh} {H H':Hp} {w w':World} (k:On g g' H H' w w') {rows:List PV} {i off:Nat} {v:Value} (h:No g w rows i off v):No g' w' rows i off v:=by obtain ⟨b,o,esz,hv,hI,hz,hi,hr⟩:=h;exact ⟨b,o,esz,hv,(k.keeps b hI).1,hz,hi,Jl k.keeps rows esz b o hI hr⟩
mutual
theorem mL {g g':Gh} {H H':Hp} {w w':World} (k:On g g' H H' w w'):∀ (x:PV) (v:Value),VR g H w x v→VR g' H' w' x v
 | .bool b,v,h=>by simpa only [VR] using h
 | .int q n,v,h=>by simpa only [VR] using h
 | .nilp,v,h=>by simpa only [VR] using h
 | .nils,v,h=>by simpa only [VR] using h
 | .emp,v,h=>by simpa only [VR] using h
 | .mt _,v,h=>by simpa only [VR] using h
 | .nilf,v,h=>by simpa only [VR] using h
 | .ptr id ext i off,v,h=>by simp only [VR] at h ⊢;exact WS k h
 | .eptr rows i off,v,h=>by simp only [VR] at h ⊢;exact ju k h
 | .data rows,v,h=>by simp only [VR] at h ⊢;exact jM k.keeps _ _ h
 | .own id lo len ext cap,v,h=>by simp only [VR] at h ⊢;exact jt k h
 | .sub id ext i off n _,v,h=>by simp only [VR] at h ⊢;obtain ⟨a,h1,h2,h3⟩:=h;exact ⟨a,WS k h1,h2,h3⟩
 | .fn f a b,v,h=>by simp only [VR] at h ⊢;obtain ⟨az,bs,e,h1,h2,h3⟩:=h;obtain ⟨h4,h5⟩:=Gh.okF_lam (fun i l e=>by rw [k.lam];exact e) h3;exact ⟨az,bs,by rw [h5];exact e,wU k a az h1,wU k b bs h2,h4⟩
 | .agg cs,v,h=>by simp only [VR] at h ⊢;obtain ⟨vs,e,h1⟩:=h;exact ⟨vs,e,Jn k cs vs h1⟩
 | .tup ps,v,h=>by simp only [VR] at h ⊢;obtain ⟨vs,e,h1⟩:=h;exact ⟨vs,e,wU k ps vs h1⟩
theorem wU {g g':Gh} {H H':Hp} {w w':World} (k:On g g' H H' w w'):∀ (l:List PV) (vs:List Value),bH g H w l vs→bH g' H' w' l vs
 | [],vs,h=>by simpa only [bH] using h
 | x::r,vs,h=>by simp only [bH] at h ⊢;obtain ⟨v,vr,e,h1,h2⟩:=h;exact ⟨v,vr,e,mL k x v h1,wU k r vr h2⟩
theorem Jn {g g':Gh} {H H':Hp} {w w':World} (k:On g g' H H' w w'):∀ (l:List PV) (vs:List Value),bM g H w l vs→bM g' H' w' l vs
 | [],vs,h=>by simpa only [bM] using h
 | x::r,vs,h=>by simp only [bM] at h ⊢;obtain ⟨v,vr,e,o,h1,h2⟩:=h;exact ⟨v,vr,e,o,mL k x v h1,Jn k r vr h2⟩
end
theorem wV {g g':Gh} {H H':Hp} {w w':World} (k:On g g' H H' w w'):∀ (x:PV) (vs:List Value),bA g H w x vs→bA g' H' w' x vs:=by
 intro x vs h
 cases x<;>simp only [bA] at h ⊢ <;> first
  | exact Jn k _ _ h
  | (obtain ⟨o,v,e,h1⟩:=h;exact ⟨o,v,e,mL k _ _ h1⟩)
theorem Dt {g g':Gh} {H H':Hp} {w w':World} (k:On g g' H H' w w') (esz b:Nat) (hb:w'.heap[b]?=w.heap[b]?):∀ (l:List PV) (o:Nat),eI g H w l esz b o→eI g' H' w' l esz b o
 | [],_,_=>by simp only [eI]
 | x::r,o,h=>by simp only [eI] at h ⊢;obtain ⟨⟨vs,hl,h1,h2⟩,h3⟩:=h;exact ⟨⟨vs,hl,wV k x vs h1,h2.keep hb⟩,Dt k esz b hb r (o+esz) h3⟩
theorem nW {g g':Gh} {H H':Hp} {w w':World} (k:On g g' H H' w w') {id:Nat} {hb:HB} {b o:Nat} (h:BlkR g H w id hb b o) (hw:w'.heap[b]?=w.heap[b]?) (hρ:g'.ρ id=g.ρ id) (hI:g'.I b→g.I b):BlkR g' H' w' id hb b o:=by
 obtain ⟨h1,h2,⟨cur,T,h3,h4⟩,h5,h6,h7,h8⟩:=h;refine ⟨hρ.trans h1,h2,⟨cur,T,hw.trans h3,h4⟩,Dt k _ _ hw _ _ h5,fun hp=>?_,fun hf=>(k.keeps b (h7 hf)).1,fun hf hi=>h8 hf (hI hi)⟩;have:=h6 hp;clear h5;revert this;generalize hb.rows=l;intro h;have key:∀ (l:List PV) (o:Nat),dN g.I w l hb.esz b o→dN g'.I w' l hb.esz b o:=by
  intro l;induction l with
  | nil=>intro o _;simp only [dN]
  | cons x r ih =>intro o h;simp only [dN] at h ⊢;obtain ⟨⟨vs,hl,h1,h2⟩,h3⟩:=h;exact ⟨⟨vs,hl,jM k.keeps x vs h1,h2.keep hw⟩,ih (o+hb.esz) h3⟩
 exact key l o h
theorem Nq {g g':Gh} {H H':Hp} {w w':World} (k:On g g' H H' w w') {row:PV} {b:Nat} (h:AU g H w row b) (hw:w'.heap[b]?=w.heap[b]?) (hI:g'.I b→g.I b):AU g' H' w' row b:=by obtain ⟨h0,cur,T,h1,h2⟩:=h;exact ⟨fun hi=>h0 (hI hi),cur,T,hw.trans h1,wV k row _ h2⟩
theorem jv {g g':Gh} {H H':Hp} {w w':World} (k:On g g' H H' w w') {tmps tmps':Array Value} {s:Nat} {fv:FV} (h:bR g H w tmps s fv)
  (ht:tmps'.getD s undef=tmps.getD s undef) (hβ:∀ s,g'.β s=g.β s) (hw:∀ s b,g.β s=some b→w'.heap[b]?=w.heap[b]?) (hI:∀ s b,g.β s=some b→¬g'.I b):bR g' H' w' tmps' s fv:=by
 cases fv with
 | v p=>simp only [bR] at h ⊢;rw [ht];exact mL k p _ h
 | box row =>simp only [bR] at h ⊢;obtain ⟨b,h1,h2,h3⟩:=h;exact ⟨b,(hβ s).trans h1,ht.trans h2,Nq k h3 (hw s b h1) (fun hi=>(hI s b h1 hi).elim)⟩
 | bp s' off =>simp only [bR] at h ⊢;obtain ⟨b,h1,h2⟩:=h;exact ⟨b,(hβ s').trans h1,ht.trans h2⟩
def RngR (g:Gh) (b:Nat):Prop:=∃ id o,g.ρ id=some (b,o)
structure Nx (g g':Gh) (H H':Hp) (w w':World):Prop where
 os:w'.os=w.os
 tape:w'.tape=w.tape
 output:w'.output=w.output
 drawn:w.drawn≤w'.drawn
 size:w.heap.size≤w'.heap.size
 kept:∀ (b:Nat),b<w.heap.size→¬RngR g b→¬kL g b→w'.heap[b]?=w.heap[b]?
 rng:∀ b,b<w.heap.size→RngR g' b→RngR g b
 immb:∀ b,b<w.heap.size→g'.I b→g.I b∨RngR g b
 bet:∀ b,b<w.heap.size→kL g' b→kL g b
 on:On g g' H H' w w'
theorem Nx.refl (g:Gh) (H:Hp) (w:World):Nx g g H H w w:=
 ⟨rfl,rfl,rfl,bW _,bW _,fun _ _ _ _=>rfl,fun _ _ h=>h,fun _ _ h=>.inl h,fun _ _ h=>h,On.refl g H w⟩
theorem Nx.trans {a b c:Gh} {H1 H2 H3:Hp} {w1 w2 w3:World} (h:Nx a b H1 H2 w1 w2) (k:Nx b c H2 H3 w2 w3):Nx a c H1 H3 w1 w3:=by
 refine ⟨k.os.trans h.os,k.tape.trans h.tape,k.output.trans h.output,jT h.drawn k.drawn,jT h.size k.size,fun i hi hr hf=>?_,fun i hi hr=>?_,fun i hi hI=>?_,fun i hi hf=>?_,h.on.trans k.on⟩
 ·have hi2:i<w2.heap.size:=lF hi h.size;exact (k.kept i hi2 (fun x=>hr (h.rng i hi x)) (fun x=>hf (h.bet i hi x))).trans (h.kept i hi hr hf)
 ·exact h.rng i hi (k.rng i (lF hi h.size) hr)
 ·rcases k.immb i (lF hi h.size) hI with h1 | h1
  ·exact h.immb i hi h1
  ·exact .inr (h.rng i hi h1)
 ·exact h.bet i hi (k.bet i (lF hi h.size) hf)
section
variable {E:Env} {nt:Nat} {g g':Gh} {F:aD} {H H':Hp} {tmps:Array Value} {w w':World}
theorem Rel.brng (h:Rel E nt g F H tmps w) {b:Nat} (hr:RngR g b):b<w.heap.size:=by
 obtain ⟨id,o,hr⟩:=hr;have hid:=h.rsome id b o hr;obtain ⟨b',o',hb⟩:=h.heap id H[id] (dU hid);obtain ⟨cur,T,hc,_⟩:=hb.cells;have:=hb.at_;rw [hr] at this
 cases this
 rcases qA4 b w.heap.size with h1|h1
 ·exact h1
 ·rw [Array.getElem?_eq_none h1] at hc;cases hc
theorem Rel.upd (h:Rel E nt g F H tmps w) (k:On g g' H H' w w') (hβ:g'.β=g.β) (hsz:w.heap.size≤w'.heap.size)
  (hbox:∀ s b,g.β s=some b→w'.heap[b]?=w.heap[b]?∧¬g'.I b∧¬RngR g' b)
  (hheap:∀ id hb,H'[id]?=some hb→∃ b o,BlkR g' H' w' id hb b o)
  (hdist:∀ id id' hb b o b' o',H'[id]?=some hb→hb.fz=false→id≠id'→g'.ρ id=some (b,o)→g'.ρ id'=some (b',o')→b≠b')
  (hsome:∀ id b o,g'.ρ id=some (b,o)→id<H'.length)
  (himm:∀ b,g'.I b→b<w'.heap.size):Rel E nt g' F H' tmps w' where
 size:=h.size
 frame:=fun s fv hs=>jv k (h.frame s fv hs) rfl (fun s=>by rw [hβ]) (fun s b hb=>(hbox s b hb).1) (fun s b hb=>(hbox s b hb).2.1)
 heap:=hheap
 dist:=hdist
 rsome:=hsome
 bdist:=by rw [hβ];exact h.bdist
 brho:=fun s b id o h1 h2=>by rw [hβ] at h1;exact (hbox s b h1).2.2 ⟨id,o,h2⟩
 bimm:=fun s b h1=>by rw [hβ] at h1;exact ⟨(hbox s b h1).2.1,lF (h.bimm s b h1).2 hsz⟩
 imm:=himm
 glob:=fun n x hx=>by obtain ⟨h1,vs,h2,h3,h4⟩:=h.glob n x hx;obtain ⟨h5,h6⟩:=k.keeps n h1;exact ⟨h5,vs,h2,jM k.keeps x vs h3,h4.keep h6⟩
theorem AV (a:Array Value) (d:Nat) (v:Value) (h:d<a.size):(a.setIfInBounds d v).getD d undef=v:=by simp [Array.getD,h]
theorem Nr (a:Array Value) (d s:Nat) (v:Value) (h:s≠d):(a.setIfInBounds d v).getD s undef=a.getD s undef:=by simp only [sJ,Jf];rw [WN (fun e=>h e.symm)]
theorem Ns {g:Gh} {H:Hp} {w:World} {tmps:Array Value} {d s:Nat} {v:Value} {fv:FV} (hs:s≠d) (h:bR g H w tmps s fv):bR g H w (tmps.setIfInBounds d v) s fv:=by
 cases fv<;>simp only [bR] at h ⊢ <;> rw [Nr _ _ _ _ hs]<;>exact h
theorem Rel.put (h:Rel E nt g F H tmps w) {d:Nat} {v:Value} {fv:FV} (hf:d<nt→bR g H w (tmps.setIfInBounds d v) d fv) (hd:d<nt):Rel E nt g (aF F d fv) H (tmps.setIfInBounds d v) w where
 size:=by simpa using h.size
 frame:=fun s x hs=>by
  rw [bI] at hs
  by_cases e:s=d
  ·subst e;simp at hs;subst hs;exact hf hd
  ·rw [WN e] at hs;exact Ns e (h.frame s x hs)
 heap:=h.heap
 dist:=h.dist
 rsome:=h.rsome
 bdist:=h.bdist
 brho:=h.brho
 bimm:=h.bimm
 imm:=h.imm
 glob:=h.glob
theorem Rel.putV (h:Rel E nt g F H tmps w) {d:Nat} {v:Value} {p:PV} (hd:d<nt) (hv:VR g H w p v):Rel E nt g (aF F d (.v p)) H (tmps.setIfInBounds d v) w:=
 h.put (fun _=>by simp only [bR];rw [AV _ _ _ (lF hd h.size)];exact hv) hd
theorem Rel.putB (h:Rel E nt g F H tmps w) {d s off b:Nat} (hd:d<nt) (hs:g.β s=some b):Rel E nt g (aF F d (.bp s off)) H (tmps.setIfInBounds d (.pointer (some ⟨b,off,none⟩))) w:=
 h.put (fun _=>by simp only [bR];rw [AV _ _ _ (lF hd h.size)];exact ⟨b,hs,rfl⟩) hd
theorem Rel.del (h:Rel E nt g F H tmps w) (d:Nat) (v:Value):Rel E nt g (eR F d) H (tmps.setIfInBounds d v) w where
 size:=by simpa using h.size
 frame:=fun s x hs=>by
  rw [wT] at hs
  by_cases e:s=d
  ·subst e;simp at hs
  ·rw [WN e] at hs;exact Ns e (h.frame s x hs)
 heap:=h.heap
 dist:=h.dist
 rsome:=h.rsome
 bdist:=h.bdist
 brho:=h.brho
 bimm:=h.bimm
 imm:=h.imm
 glob:=h.glob
theorem Rel.less (h:Rel E nt g F H tmps w) {F':aD} (hf:∀ s x,fget F' s=some x→fget F s=some x):Rel E nt g F' H tmps w:=
 { h with frame:=fun s x hs=>h.frame s x (hf s x hs) }
theorem On.drew (g:Gh) (H:Hp) (w:World):On g g H H w w.drew:=⟨fun _ h=>⟨h,rfl⟩,eY.refl g H,fun _ cur _ h=>⟨cur,h,rfl⟩,rfl⟩
theorem Nx.drew (g:Gh) (H:Hp) (w:World):Nx g g H H w w.drew:=
 ⟨rfl,rfl,rfl,Nat.le_succ _,bW _,fun _ _ _ _=>rfl,fun _ _ h=>h,fun _ _ h=>.inl h,fun _ _ h=>h,On.drew g H w⟩
theorem Rel.drew (h:Rel E nt g F H tmps w):Rel E nt g F H tmps w.drew:=
 h.upd (On.drew g H w) rfl (bW _) (fun s b hb=>⟨rfl,(h.bimm s b hb).1,fun ⟨id,o,hr⟩=>h.brho s b id o hb hr⟩)
  (fun id hb e=>by obtain ⟨b,o,hk⟩:=h.heap id hb e;exact ⟨b,o,nW (On.drew g H w) hk rfl rfl (fun x=>x)⟩) h.dist h.rsome h.imm
theorem oP (w:World) (o:Obj) {b:Nat} (hb:b<w.heap.size):(w.alloc o).heap[b]?=w.heap[b]?:=by show (w.heap.push o)[b]?=_;rw [Array.getElem?_push,WN (by omega)]
theorem sW (w:World) (o:Obj):(w.alloc o).heap[w.heap.size]?=some o:=by show (w.heap.push o)[w.heap.size]?=_;simp
theorem Jo {α:Type} {a:Array α} {i:Nat} {x:α} (h:a[i]?=some x):i<a.size:=by
 rcases qA4 i a.size with h1|h1
 ·exact h1
 ·rw [Array.getElem?_eq_none h1] at h;cases h
theorem On.alloc (hI:∀ b,g.I b→b<w.heap.size) (ob:Obj):On g g H H w (w.alloc ob):=
 ⟨fun b h=>⟨h,oP w ob (hI b h)⟩,eY.refl g H,fun _ cur _ h=>⟨cur,(oP w ob (Jo h)).trans h,rfl⟩,rfl⟩
theorem Rel.newBox (h:Rel E nt g F H tmps w) {d:Nat} {row:PV} {cs:Array Value} {T:TypeId} (hd:d<nt) (hn:noBp F d=true) (hr:bA g H w row cs.toList) :
  ∃ g',Rel E nt g' (aF F d (.box row)) H (tmps.setIfInBounds d (.pointer (some ⟨w.heap.size,0,none⟩))) (w.alloc (.cells cs T))∧Nx g g' H H w (w.alloc (.cells cs T)):=by
 let g':Gh:={ g with β:=fun s=>if s=d then some w.heap.size else g.β s };have hon:On g g' H H w (w.alloc (.cells cs T)):=by
  have:=On.alloc (g:=g) (H:=H) h.imm (.cells cs T);exact ⟨this.keeps,this.hext,this.shape,rfl⟩
 have hnotI:¬g.I w.heap.size:=fun hi=>Nat.lt_irrefl _ (h.imm _ hi)
 have hnobp:∀ (F:aD),noBp F d=true→∀ s s' off,fget F s=some (.bp s' off)→s'≠d:=by
  intro F;induction F with
  | nil=>intro _ s s' off e;simp [fget] at e
  | cons a r ih=>
   obtain ⟨j,x⟩:=a;intro hn s s' off e;simp only [fget] at e
   by_cases hj:j=s
   ·simp only [hj,if_true,bT] at e;subst e;simp only [noBp,bO,jR,beq_eq_false_iff_ne,ne_eq] at hn;exact hn.1
   ·simp only [hj,if_false] at e;refine ih ?_ s s' off e
    cases x<;>simp [noBp] at hn<;>first | exact hn | exact hn.2
 refine ⟨g',?_,?_⟩
 ·refine { size:=by simpa using h.size,frame:=?_,heap:=?_,dist:=h.dist,rsome:=h.rsome,bdist:=?_,brho:=?_,bimm:=?_,imm:=?_,glob:=?_ }
  ·intro s x hs;rw [bI] at hs
   by_cases e:s=d
   ·subst e;simp at hs;subst hs;simp only [bR];refine ⟨w.heap.size,by simp [g'],AV _ _ _ (lF hd h.size),hnotI,cs,T,sW w _,wV hon _ _ hr⟩
   ·rw [WN e] at hs;have h0:=Ns (v:=.pointer (some ⟨w.heap.size,0,none⟩)) e (h.frame s x hs)
    cases x with
    | v p=>simp only [bR] at h0 ⊢;exact mL hon p _ h0
    | box row' =>simp only [bR] at h0 ⊢;obtain ⟨b,h1,h2,h3⟩:=h0;exact ⟨b,by simp only [g',WN e];exact h1,h2,Nq hon h3 (oP w _ (h.bimm s b h1).2) (fun x=>x)⟩
    | bp s' off =>simp only [bR] at h0 ⊢;obtain ⟨b,h1,h2⟩:=h0;exact ⟨b,by simp only [g',WN (hnobp F hn s s' off hs)];exact h1,h2⟩
  ·intro id hb e;obtain ⟨b,o,hk⟩:=h.heap id hb e;exact ⟨b,o,nW hon hk (oP w _ (h.brng ⟨id,o,hk.at_⟩)) rfl (fun x=>x)⟩
  ·intro s s' b h1 h2;simp only [g'] at h1 h2
   by_cases e1:s=d<;>by_cases e2:s'=d
   ·omega
   ·rw [WM e1] at h1;rw [WN e2] at h2
    cases h1
    exact absurd (h.bimm s' _ h2).2 (Nat.lt_irrefl _)
   ·rw [WN e1] at h1;rw [WM e2] at h2
    cases h2
    exact absurd (h.bimm s _ h1).2 (Nat.lt_irrefl _)
   ·rw [WN e1] at h1;rw [WN e2] at h2;exact h.bdist s s' b h1 h2
  ·intro s b id o h1 h2;simp only [g'] at h1
   by_cases e1:s=d
   ·rw [WM e1] at h1
    cases h1
    exact absurd (h.brng ⟨id,o,h2⟩) (Nat.lt_irrefl _)
   ·rw [WN e1] at h1;exact h.brho s b id o h1 h2
  ·intro s b h1;simp only [g'] at h1
   by_cases e1:s=d
   ·rw [WM e1] at h1
    cases h1
    exact ⟨hnotI,by simp⟩
   ·rw [WN e1] at h1;exact ⟨(h.bimm s b h1).1,by have:=(h.bimm s b h1).2;simp;omega⟩
  ·intro b hb;have:=h.imm b hb;simp;omega
  ·intro n x hx;obtain ⟨h1,vs,h2,h3,h4⟩:=h.glob n x hx;obtain ⟨h5,h6⟩:=hon.keeps n h1;exact ⟨h5,vs,h2,jM hon.keeps x vs h3,h4.keep h6⟩
 ·refine ⟨rfl,rfl,rfl,bW _,by simp,fun b hb _ _=>oP w _ hb,fun b _ hr=>hr,fun b _ hI=>.inl hI,fun b hb hm=>?_,hon⟩;obtain ⟨s,hs⟩:=hm;simp only [g'] at hs
  by_cases e:s=d
  ·rw [WM e] at hs;cases hs;omega
  ·rw [WN e] at hs;exact ⟨s,hs⟩
end
theorem At.of_cells {w:World} {b o:Nat} {cur:Array Value} {T:TypeId} {fr:Nat×Nat} {vs:List Value} (h:w.heap[b]?=some (Obj.cells cur T fr)) (e:(cur.toList.drop o).take vs.length=vs):At w b o vs:=by
 intro j u hj;simp only [World.cell?,h];have hlt:j<vs.length:=by
  rcases qA4 j vs.length with h1|h1
  ·exact h1
  ·rw [jI h1] at hj;cases hj
 have:((cur.toList.drop o).take vs.length)[j]?=some u:=by rw [e];exact hj
 rw [qU] at this;simp only [hlt,if_true,sM] at this;simpa using this
theorem At.to_cells {w:World} {b o:Nat} {cur:Array Value} {T:TypeId} {fr:Nat×Nat} {vs:List Value} (h:w.heap[b]?=some (Obj.cells cur T fr)) (a:At w b o vs):(cur.toList.drop o).take vs.length=vs:=by
 apply qV;intro j
 by_cases hlt:j<vs.length
 ·have:=a j vs[j] (dU hlt);simp only [World.cell?,h] at this;rw [qU];simp only [hlt,if_true,sM,dU hlt];simpa using this
 ·rw [qU,WN hlt,jI (Nat.le_of_not_lt hlt)]
section
variable {E:Env} {nt:Nat} {g g':Gh} {F:aD} {H H':Hp} {tmps:Array Value} {w w':World}
theorem vJ:∀ (l:List PV) (esz b o i:Nat) (x:PV),eI g H w l esz b o→l[i]?=some x→∃ vs,vs.length=esz∧bA g H w x vs∧At w b (o+i*esz) vs
 | [],_,_,_,i,x,_,h=>by simp at h
 | y::r,esz,b,o,0,x,h,e=>by simp only [eI] at h;simp at e;subst e;obtain ⟨⟨vs,h1,h2,h3⟩,_⟩:=h;exact ⟨vs,h1,h2,by simpa using h3⟩
 | y::r,esz,b,o,i+1,x,h,e=>by simp only [eI] at h;simp at e;obtain ⟨vs,h1,h2,h3⟩:=vJ r esz b (o+esz) i x h.2 e;exact ⟨vs,h1,h2,by rw [show o+(i+1)*esz=o+esz+i*esz from by rw [dC];omega];exact h3⟩
theorem oR {I:Nat→Prop}:∀ (l:List PV) (esz b o i:Nat) (x:PV),dN I w l esz b o→l[i]?=some x→∃ vs,vs.length=esz∧RC I w x vs∧At w b (o+i*esz) vs
 | [],_,_,_,i,x,_,h=>by simp at h
 | y::r,esz,b,o,0,x,h,e=>by simp only [dN] at h;simp at e;subst e;obtain ⟨⟨vs,h1,h2,h3⟩,_⟩:=h;exact ⟨vs,h1,h2,by simpa using h3⟩
 | y::r,esz,b,o,i+1,x,h,e=>by simp only [dN] at h;simp at e;obtain ⟨vs,h1,h2,h3⟩:=oR r esz b (o+esz) i x h.2 e;exact ⟨vs,h1,h2,by rw [show o+(i+1)*esz=o+esz+i*esz from by rw [dC];omega];exact h3⟩
theorem Du:∀ (l:List PV) (esz b o:Nat),(∀ i x,l[i]?=some x→∃ vs,vs.length=esz∧bA g H w x vs∧At w b (o+i*esz) vs)→eI g H w l esz b o
 | [],_,_,_,_=>by simp only [eI]
 | y::r,esz,b,o,h=>by simp only [eI];refine ⟨by simpa using h 0 y rfl,Du r esz b (o+esz) fun i x hx=>?_⟩;obtain ⟨vs,h1,h2,h3⟩:=h (i+1) x (by simpa using hx);exact ⟨vs,h1,h2,by rw [show o+esz+i*esz=o+(i+1)*esz from by rw [dC];omega];exact h3⟩
theorem sX {I:Nat→Prop}:∀ (l:List PV) (esz b o:Nat),(∀ i x,l[i]?=some x→∃ vs,vs.length=esz∧RC I w x vs∧At w b (o+i*esz) vs)→dN I w l esz b o
 | [],_,_,_,_=>by simp only [dN]
 | y::r,esz,b,o,h=>by simp only [dN];refine ⟨by simpa using h 0 y rfl,sX r esz b (o+esz) fun i x hx=>?_⟩;obtain ⟨vs,h1,h2,h3⟩:=h (i+1) x (by simpa using hx);exact ⟨vs,h1,h2,by rw [show o+esz+i*esz=o+(i+1)*esz from by rw [dC];omega];exact h3⟩
theorem Jp {I:Nat→Prop} {l:List PV} {esz b o:Nat} (h:dN I w l esz b o) (lo n:Nat):dN I w ((l.drop lo).take n) esz b (o+lo*esz):=by
 refine sX _ _ _ _ fun i x hx=>?_
 rw [qU] at hx;split at hx
 ·rw [sM] at hx;obtain ⟨vs,h1,h2,h3⟩:=oR l esz b o (lo+i) x h hx;exact ⟨vs,h1,h2,by rw [show o+lo*esz+i*esz=o+(lo+i)*esz from by rw [dC];omega];exact h3⟩
 ·cases hx
theorem WT (x:PV) (v:Value) (ho:x.one=true) (h:RC g.I w x [v]):VR g H w x v:=by
 cases x with
 | bool b=>simp only [RC,VR] at h ⊢;simpa using h
 | int k n=>simp only [RC,VR] at h ⊢;simpa using h
 | data rows=>simp only [VR];exact h
 | agg cs=>simp [PV.one] at ho
 | tup ps=>simp [PV.one] at ho
 | _=>simp [RC] at h
theorem Nt:∀ (l:List PV) (vs:List Value),ya5 g.I w l vs→bM g H w l vs
 | [],vs,h=>by simpa only [bM,ya5] using h
 | x::r,vs,h=>by simp only [bM,ya5] at h ⊢;obtain ⟨v,vr,e,o,h1,h2⟩:=h;exact ⟨v,vr,e,o,WT x v o h1,Nt r vr h2⟩
theorem Jq (x:PV) (vs:List Value) (h:RC g.I w x vs):bA g H w x vs:=by
 cases x with
 | bool b=>simp only [RC,bA,VR] at h ⊢;exact ⟨rfl,_,h,rfl⟩
 | int k n=>simp only [RC,bA,VR] at h ⊢;exact ⟨rfl,_,h.1,rfl,h.2⟩
 | data rows =>simp only [bA,VR];have h':=h;simp only [RC] at h;obtain ⟨a,len,cap,e,_⟩:=h;exact ⟨rfl,_,e,by rw [← e];exact h'⟩
 | agg cs=>simp only [RC,bA] at h ⊢;exact Nt cs vs h
 | _=>simp [RC] at h
theorem Nu {l:List PV} {esz b o:Nat} (h:dN g.I w l esz b o):eI g H w l esz b o:=
 Du _ _ _ _ fun i x hx=>by obtain ⟨vs,h1,h2,h3⟩:=oR l esz b o i x h hx;exact ⟨vs,h1,Jq x vs h2,h3⟩
theorem yEj (H:Hp) (hb hb':HB) (id:Nat) (h:(H++[hb])[id]?=some hb'):(id<H.length∧H[id]?=some hb')∨(id=H.length∧hb'=hb):=by
 rw [pF] at h;split at h
 ·rename_i hl;exact .inl ⟨hl,h⟩
 ·rename_i hl;have:id-H.length=0:=by
   rcases Nat.eq_zero_or_pos (id-H.length) with e|e
   ·exact e
   ·rw [jI (by simp;omega)] at h;cases h
  rw [this] at h;simp at h;exact .inr ⟨by omega,h.symm⟩
theorem Rel.newBlk (h:Rel E nt g F H tmps w) {hb:HB} {cs:Array Value} {T:TypeId} (hz:0<hb.esz) (hf:hb.fz=false) (hl:hb.rows.length*hb.esz≤cs.size)
  (hr:∀ i x,hb.rows[i]?=some x→∃ vs,vs.length=hb.esz∧bA g H w x vs∧(cs.toList.drop (i*hb.esz)).take vs.length=vs)
  (hp:hb.pu=true→∀ i x,hb.rows[i]?=some x→∃ vs,vs.length=hb.esz∧RC g.I w x vs∧(cs.toList.drop (i*hb.esz)).take vs.length=vs) :
  ∃ g',Rel E nt g' F (H++[hb]) tmps (w.alloc (.cells cs T))∧Nx g g' H (H++[hb]) w (w.alloc (.cells cs T))∧g'.ρ H.length=some (w.heap.size,0):=by
 let g':Gh:={ g with ρ:=fun id=>if id=H.length then some (w.heap.size,0) else g.ρ id };have hx:eY g g' H (H++[hb]):=by
  intro id hb' e;have hid:id<H.length:=by
   rcases qA4 id H.length with h1|h1
   ·exact h1
   ·rw [jI h1] at e;cases e
  refine ⟨hb',by rw [List.getElem?_append_left hid];exact e,rfl,rfl,.inr ⟨rfl,?_⟩⟩;simp only [g'];rw [WN (by omega)]
 have hon:On g g' H (H++[hb]) w (w.alloc (.cells cs T)):=by have:=On.alloc (g:=g) (H:=H) h.imm (.cells cs T);exact ⟨this.keeps,hx,this.shape,rfl⟩
 have hnotI:¬g.I w.heap.size:=fun hi=>Nat.lt_irrefl _ (h.imm _ hi)
 have hnew:=sW w (.cells cs T);have hρ:∀ id b o,g'.ρ id=some (b,o)→(id=H.length∧b=w.heap.size∧o=0)∨(id<H.length∧g.ρ id=some (b,o)∧b<w.heap.size):=by
  intro id b o e;simp only [g'] at e
  by_cases e1:id=H.length
  ·rw [WM e1] at e;cases e;exact .inl ⟨e1,rfl,rfl⟩
  ·rw [WN e1] at e;exact .inr ⟨h.rsome id b o e,e,h.brng ⟨id,o,e⟩⟩
 refine ⟨g',?_,?_,by simp [g']⟩
 ·refine h.upd hon rfl (by simp) (fun s b hb'=>⟨oP w _ (h.bimm s b hb').2,(h.bimm s b hb').1,?_⟩) ?_ ?_ ?_ ?_
  ·rintro ⟨id,o,hr'⟩;rcases hρ id b o hr' with ⟨_,e,_⟩ | ⟨_,e,_⟩
   ·have:=(h.bimm s b hb').2;omega
   ·exact h.brho s b id o hb' e
  ·intro id hb' e;rcases yEj H hb hb' id e with ⟨hid,e'⟩ | ⟨hid,e'⟩
   ·obtain ⟨b,o,hk⟩:=h.heap id hb' e';exact ⟨b,o,nW hon hk (oP w _ (h.brng ⟨id,o,hk.at_⟩)) (by simp only [g'];rw [WN (by omega)]) (fun x=>x)⟩
   ·subst hid;subst e';refine ⟨w.heap.size,0,by simp [g'],hz,⟨cs,T,hnew,by omega⟩,Du _ _ _ _ fun i x hx'=>?_,fun hpu=>sX _ _ _ _ fun i x hx'=>?_,fun hfz=>(by rw [hf] at hfz;cases hfz),fun _=>hnotI⟩
    ·obtain ⟨vs,h1,h2,h3⟩:=hr i x hx';exact ⟨vs,h1,wV hon x vs h2,At.of_cells hnew (by simpa using h3)⟩
    ·obtain ⟨vs,h1,h2,h3⟩:=hp hpu i x hx';exact ⟨vs,h1,jM hon.keeps x vs h2,At.of_cells hnew (by simpa using h3)⟩
  ·intro id id' hb' b o b' o' e hfz hne h1 h2;rcases hρ id b o h1 with ⟨i1,i2,i3⟩ | ⟨i1,i2,i3⟩<;>rcases hρ id' b' o' h2 with ⟨j1,j2,j3⟩ | ⟨j1,j2,j3⟩
   ·omega
   ·omega
   ·omega
   ·exact h.dist id id' hb' b o b' o' (by rw [List.getElem?_append_left i1] at e;exact e) hfz hne i2 j2
  ·intro id b o e;rcases hρ id b o e with ⟨i1,_⟩ | ⟨i1,_⟩<;>simp<;>omega
  ·intro b hb';have:=h.imm b hb';simp;omega
 ·refine ⟨rfl,rfl,rfl,bW _,by simp,fun b hb' _ _=>oP w _ hb',fun b hb' ⟨id,o,e⟩=>?_,fun b _ hI=>.inl hI,fun b _ hm=>hm,hon⟩;rcases hρ id b o e with ⟨_,i2,_⟩ | ⟨_,i2,_⟩
  ·omega
  ·exact ⟨id,o,i2⟩
theorem WU (w:World) {b:Nat} {cur cs:Array Value} {T:TypeId} (hb:w.heap[b]?=some (.cells cur T (0,0))) (hs:cs.size=cur.size) :
  ∀ (b':Nat) (c:Array Value) (T':TypeId),w.heap[b']?=some (Obj.cells c T' (0,0))→∃ c':Array Value,(w.setRow b cs).heap[b']?=some (Obj.cells c' T' (0,0))∧c'.size=c.size:=by
 intro b' c T' h
 by_cases e:b'=b
 ·subst e;rw [hb] at h;cases h;exact ⟨cs,setRow_heap w b' cur cs T (0,0) hb,hs⟩
 ·exact ⟨c,by rw [setRow_other w b b' cs e];exact h,rfl⟩
theorem Dv (w:World) (b:Nat) (cs:Array Value):(w.setRow b cs).heap.size=w.heap.size:=by simp [World.setRow]
theorem WV (w:World) (b:Nat) (cs:Array Value):(w.setRow b cs).tape=w.tape:=rfl
theorem Rel.setBox (h:Rel E nt g F H tmps w) {s b:Nat} {row row':PV} {cur cs:Array Value} {T:TypeId} (hs:g.β s=some b) (hF:fget F s=some (.box row)) (hb:w.heap[b]?=some (.cells cur T (0,0)))
  (hz:cs.size=cur.size) (hr:bA g H w row' cs.toList) :
  Rel E nt g (aF F s (.box row')) H tmps (w.setRow b cs)∧Nx g g H H w (w.setRow b cs):=by
 have hbI:=h.bimm s b hs;have hon:On g g H H w (w.setRow b cs):=by refine ⟨fun i hi=>⟨hi,setRow_other w b i cs (fun e=>?_)⟩,eY.refl g H,WU w hb hz,rfl⟩;subst e;exact hbI.1 hi
 have hoth:∀ i,i≠b→(w.setRow b cs).heap[i]?=w.heap[i]?:=fun i hi=>setRow_other w b i cs hi
 refine ⟨{ size:=h.size,frame:=?_,heap:=?_,dist:=h.dist,rsome:=h.rsome,bdist:=h.bdist,brho:=h.brho,bimm:=?_,imm:=?_,glob:=?_ },?_⟩
 ·intro k x hk;rw [bI] at hk
  by_cases e:k=s
  ·subst e;simp at hk;subst hk;have h0:=h.frame k _ hF;simp only [bR] at h0 ⊢;obtain ⟨b0,h1,h2,h3⟩:=h0;rw [hs] at h1;cases h1;exact ⟨b,hs,h2,hbI.1,cs,T,setRow_heap w b cur cs T (0,0) hb,wV hon _ _ hr⟩
  ·rw [WN e] at hk;have h0:=h.frame k x hk
   cases x with
   | v p=>simp only [bR] at h0 ⊢;exact mL hon p _ h0
   | box r =>simp only [bR] at h0 ⊢;obtain ⟨b',h1,h2,h3⟩:=h0;exact ⟨b',h1,h2,Nq hon h3 (hoth b' (fun e'=>e (h.bdist k s b (e' ▸ h1) hs))) (fun x=>x)⟩
   | bp s' off=>simp only [bR] at h0 ⊢;exact h0
 ·intro id hb' e;obtain ⟨b',o,hk⟩:=h.heap id hb' e;exact ⟨b',o,nW hon hk (hoth b' (fun e'=>h.brho s b id o hs (e' ▸ hk.at_))) rfl (fun x=>x)⟩
 ·intro s' b' h1;have:=h.bimm s' b' h1;rw [Dv];exact this
 ·intro b' hI;rw [Dv];exact h.imm b' hI
 ·intro n x hx;obtain ⟨h1,vs,h2,h3,h4⟩:=h.glob n x hx;obtain ⟨h5,h6⟩:=hon.keeps n h1;exact ⟨h5,vs,h2,jM hon.keeps x vs h3,h4.keep h6⟩
 ·exact ⟨setRow_os w b cs,WV w b cs,setRow_output w b cs,bW _,by rw [Dv];exact bW _,fun i _ _ hf=>hoth i (fun e=>hf ⟨s,e ▸ hs⟩),fun _ _ x=>x,fun _ _ x=>.inl x,fun _ _ x=>x,hon⟩
theorem ymT (H:Hp) (id k:Nat) (hb hb':HB) (h:(H.set id hb)[k]?=some hb'):(k=id∧hb'=hb∧id<H.length)∨(k≠id∧H[k]?=some hb'):=by
 rw [Gc] at h;split at h
 ·rename_i e;split at h
  ·cases h;exact .inl ⟨e.symm,rfl,by assumption⟩
  ·cases h
 ·rename_i e;exact .inr ⟨fun x=>e x.symm,h⟩
theorem hlt {H:Hp} {id:Nat} {hb:HB} (h:H[id]?=some hb):id<H.length:=by
 rcases qA4 id H.length with h1|h1
 ·exact h1
 ·rw [jI h1] at h;cases h
theorem Rel.setBlk (h:Rel E nt g F H tmps w) {id b o:Nat} {hb:HB} {rows':List PV} {cur cs:Array Value} {T:TypeId}
  (hid:H[id]?=some hb) (hf:hb.fz=false) (hρ:g.ρ id=some (b,o)) (hc:w.heap[b]?=some (.cells cur T (0,0))) (hz:cs.size=cur.size)
  (hl:hb.rows.length≤rows'.length) (hfit:o+rows'.length*hb.esz≤cs.size)
  (hr:∀ i x,rows'[i]?=some x→∃ vs,vs.length=hb.esz∧bA g H w x vs∧(cs.toList.drop (o+i*hb.esz)).take vs.length=vs)
  (hp:hb.pu=true→∀ i x,rows'[i]?=some x→∃ vs,vs.length=hb.esz∧RC g.I w x vs∧(cs.toList.drop (o+i*hb.esz)).take vs.length=vs) :
  Rel E nt g F (H.set id { hb with rows:=rows' }) tmps (w.setRow b cs)∧Nx g g H (H.set id { hb with rows:=rows' }) w (w.setRow b cs):=by
 obtain ⟨b0,o0,hk0⟩:=h.heap id hb hid;have e0:b0=b∧o0=o:=by have:=hk0.at_;rw [hρ] at this;cases this;exact ⟨rfl,rfl⟩
 obtain ⟨rfl,rfl⟩:=e0;have hbI:=hk0.live hf;have hx:eY g g H (H.set id { hb with rows:=rows' }):=by
  intro k hb' e
  by_cases ek:k=id
  ·subst ek;rw [hid] at e;cases e;refine ⟨{ hb with rows:=rows' },by rw [sK (hlt hid)],rfl,rfl,?_⟩;rcases qA4 hb.rows.length rows'.length with h1 | h1
   ·exact .inl h1
   ·exact .inr ⟨by simp;omega,rfl⟩
  ·exact ⟨hb',by rw [pG (fun x=>ek x.symm)];exact e,rfl,rfl,.inr ⟨rfl,rfl⟩⟩
 have hoth:∀ i,i≠b0→(w.setRow b0 cs).heap[i]?=w.heap[i]?:=fun i hi=>setRow_other w b0 i cs hi
 have hon:On g g H (H.set id { hb with rows:=rows' }) w (w.setRow b0 cs):=by refine ⟨fun i hi=>⟨hi,hoth i (fun e=>?_)⟩,hx,WU w hc hz,rfl⟩;subst e;exact hbI hi
 have hnew:=setRow_heap w b0 cur cs T (0,0) hc;refine ⟨?_,?_⟩
 ·refine h.upd hon rfl (by rw [Dv];exact bW _) (fun s b' hs=>⟨hoth b' (fun e=>h.brho s b0 id o0 (e ▸ hs) hρ),(h.bimm s b' hs).1,fun ⟨i,oo,hr'⟩=>h.brho s b' i oo hs hr'⟩) ?_ ?_ ?_ ?_
  ·intro k hb' e;rcases ymT H id k _ hb' e with ⟨ek,eb,_⟩ | ⟨ek,e'⟩
   ·subst ek;subst eb;refine ⟨b0,o0,hρ,hk0.esz,⟨cs,T,hnew,hfit⟩,Du _ _ _ _ fun i x hx'=>?_,fun hpu=>sX _ _ _ _ fun i x hx'=>?_,fun hfz=>(by simp [hf] at hfz),fun _=>hbI⟩
    ·obtain ⟨vs,h1,h2,h3⟩:=hr i x hx';exact ⟨vs,h1,wV hon x vs h2,At.of_cells hnew h3⟩
    ·obtain ⟨vs,h1,h2,h3⟩:=hp hpu i x hx';exact ⟨vs,h1,jM hon.keeps x vs h2,At.of_cells hnew h3⟩
   ·obtain ⟨b',o',hk⟩:=h.heap k hb' e';exact ⟨b',o',nW hon hk (hoth b' (fun e=>h.dist id k hb b0 o0 b' o' hid hf (fun x=>ek x.symm) hρ hk.at_ e.symm)) rfl (fun x=>x)⟩
  ·intro k k' hb' b' o' b'' o'' e hfz hne h1 h2;rcases ymT H id k _ hb' e with ⟨ek,eb,_⟩ | ⟨ek,e'⟩
   ·subst ek;exact h.dist k k' hb b' o' b'' o'' hid hf hne h1 h2
   ·exact h.dist k k' hb' b' o' b'' o'' e' hfz hne h1 h2
  ·intro k b' o' e;rw [sN];exact h.rsome k b' o' e
  ·intro b' hI;rw [Dv];exact h.imm b' hI
 ·exact ⟨setRow_os w b0 cs,WV w b0 cs,setRow_output w b0 cs,bW _,by rw [Dv];exact bW _,fun i _ hr' _=>hoth i (fun e=>hr' ⟨id,o0,e ▸ hρ⟩),fun _ _ x=>x,fun _ _ x=>.inl x,fun _ _ x=>x,hon⟩
theorem Rel.growBlk (h:Rel E nt g F H tmps w) {id:Nat} {hb:HB} {rows':List PV} {cs:Array Value} {T:TypeId}
  (hid:H[id]?=some hb) (hf:hb.fz=false) (hl:hb.rows.length<rows'.length) (hfit:rows'.length*hb.esz≤cs.size)
  (hr:∀ i x,rows'[i]?=some x→∃ vs,vs.length=hb.esz∧bA g H w x vs∧(cs.toList.drop (i*hb.esz)).take vs.length=vs)
  (hp:hb.pu=true→∀ i x,rows'[i]?=some x→∃ vs,vs.length=hb.esz∧RC g.I w x vs∧(cs.toList.drop (i*hb.esz)).take vs.length=vs) :
  ∃ g',Rel E nt g' F (H.set id { hb with rows:=rows' }) tmps (w.alloc (.cells cs T))∧Nx g g' H (H.set id { hb with rows:=rows' }) w (w.alloc (.cells cs T))∧g'.ρ id=some (w.heap.size,0):=by
 let g':Gh:={ g with ρ:=fun k=>if k=id then some (w.heap.size,0) else g.ρ k };obtain ⟨b0,o0,hk0⟩:=h.heap id hb hid;have hx:eY g g' H (H.set id { hb with rows:=rows' }):=by
  intro k hb' e
  by_cases ek:k=id
  ·subst ek;rw [hid] at e;cases e;exact ⟨{ hb with rows:=rows' },by rw [sK (hlt hid)],rfl,rfl,.inl hl⟩
  ·exact ⟨hb',by rw [pG (fun x=>ek x.symm)];exact e,rfl,rfl,.inr ⟨rfl,by simp only [g'];rw [WN ek]⟩⟩
 have hon:On g g' H (H.set id { hb with rows:=rows' }) w (w.alloc (.cells cs T)):=by have:=On.alloc (g:=g) (H:=H) h.imm (.cells cs T);exact ⟨this.keeps,hx,this.shape,rfl⟩
 have hnotI:¬g.I w.heap.size:=fun hi=>Nat.lt_irrefl _ (h.imm _ hi)
 have hnew:=sW w (.cells cs T);have hρ:∀ k b o,g'.ρ k=some (b,o)→(k=id∧b=w.heap.size∧o=0)∨(k≠id∧g.ρ k=some (b,o)∧b<w.heap.size):=by
  intro k b o e;simp only [g'] at e
  by_cases e1:k=id
  ·rw [WM e1] at e;cases e;exact .inl ⟨e1,rfl,rfl⟩
  ·rw [WN e1] at e;exact .inr ⟨e1,e,h.brng ⟨k,o,e⟩⟩
 refine ⟨g',?_,?_,by simp [g']⟩
 ·refine h.upd hon rfl (by simp) (fun s b hb'=>⟨oP w _ (h.bimm s b hb').2,(h.bimm s b hb').1,?_⟩) ?_ ?_ ?_ ?_
  ·rintro ⟨k,o,hr'⟩;rcases hρ k b o hr' with ⟨_,e,_⟩ | ⟨_,e,_⟩
   ·have:=(h.bimm s b hb').2;omega
   ·exact h.brho s b k o hb' e
  ·intro k hb' e;rcases ymT H id k _ hb' e with ⟨ek,eb,_⟩ | ⟨ek,e'⟩
   ·subst ek;subst eb;refine ⟨w.heap.size,0,by simp [g'],hk0.esz,⟨cs,T,hnew,by simpa using hfit⟩,Du _ _ _ _ fun i x hx'=>?_,fun hpu=>sX _ _ _ _ fun i x hx'=>?_,fun hfz=>(by simp [hf] at hfz),fun _=>hnotI⟩
    ·obtain ⟨vs,h1,h2,h3⟩:=hr i x hx';exact ⟨vs,h1,wV hon x vs h2,At.of_cells hnew (by simpa using h3)⟩
    ·obtain ⟨vs,h1,h2,h3⟩:=hp hpu i x hx';exact ⟨vs,h1,jM hon.keeps x vs h2,At.of_cells hnew (by simpa using h3)⟩
   ·obtain ⟨b,o,hk⟩:=h.heap k hb' e';exact ⟨b,o,nW hon hk (oP w _ (h.brng ⟨k,o,hk.at_⟩)) (by simp only [g'];rw [WN ek]) (fun x=>x)⟩
  ·intro k k' hb' b' o' b'' o'' e hfz hne h1 h2;rcases hρ k b' o' h1 with ⟨i1,i2,i3⟩ | ⟨i1,i2,i3⟩<;>rcases hρ k' b'' o'' h2 with ⟨j1,j2,j3⟩ | ⟨j1,j2,j3⟩
   ·omega
   ·omega
   ·omega
   ·rcases ymT H id k _ hb' e with ⟨ek,_,_⟩ | ⟨ek,e'⟩
    ·exact absurd ek i1
    ·exact h.dist k k' hb' b' o' b'' o'' e' hfz hne i2 j2
  ·intro k b o e;rw [sN];rcases hρ k b o e with ⟨i1,_⟩ | ⟨_,i1,_⟩
   ·subst i1;exact hlt hid
   ·exact h.rsome k b o i1
  ·intro b hb';have:=h.imm b hb';simp;omega
 ·refine ⟨rfl,rfl,rfl,bW _,by simp,fun b hb' _ _=>oP w _ hb',fun b hb' ⟨k,o,e⟩=>?_,fun b _ hI=>.inl hI,fun b _ hm=>hm,hon⟩;rcases hρ k b o e with ⟨_,i2,_⟩ | ⟨_,i2,_⟩
  ·omega
  ·exact ⟨k,o,i2⟩
theorem Rel.freeze (h:Rel E nt g F H tmps w) {id:Nat} {hb:HB} (hid:H[id]?=some hb) (hp:hb.pu=true) :
  ∃ g' b o,Rel E nt g' F (H.set id { hb with fz:=true }) tmps w∧Nx g g' H (H.set id { hb with fz:=true }) w w∧g'.ρ=g.ρ∧g'.β=g.β∧g.ρ id=some (b,o)∧g'.I b∧dN g'.I w hb.rows hb.esz b o∧0<hb.esz:=by
 obtain ⟨b0,o0,hk0⟩:=h.heap id hb hid;let g':Gh:={ g with I:=fun b=>g.I b∨b=b0 };have hx:eY g g' H (H.set id { hb with fz:=true }):=by
  intro k hb' e
  by_cases ek:k=id
  ·subst ek;rw [hid] at e;cases e;exact ⟨{ hb with fz:=true },by rw [sK (hlt hid)],rfl,rfl,.inr ⟨rfl,rfl⟩⟩
  ·exact ⟨hb',by rw [pG (fun x=>ek x.symm)];exact e,rfl,rfl,.inr ⟨rfl,rfl⟩⟩
 have hon:On g g' H (H.set id { hb with fz:=true }) w w:=⟨fun i hi=>⟨.inl hi,rfl⟩,hx,fun b cur T e=>⟨cur,e,rfl⟩,rfl⟩;have hblt:b0<w.heap.size:=h.brng ⟨id,o0,hk0.at_⟩;have hrows:dN g'.I w hb.rows hb.esz b0 o0:=by
  refine sX _ _ _ _ fun i x hx'=>?_
  obtain ⟨vs,h1,h2,h3⟩:=oR _ _ _ _ i x (hk0.pure hp) hx';exact ⟨vs,h1,jM hon.keeps x vs h2,h3⟩
 refine ⟨g',b0,o0,?_,?_,rfl,rfl,hk0.at_,.inr rfl,hrows,hk0.esz⟩
 ·refine h.upd hon rfl (bW _) (fun s b hb'=>⟨rfl,?_,fun ⟨i,oo,hr'⟩=>h.brho s b i oo hb' hr'⟩) ?_ ?_ ?_ ?_
  ·rintro (hi | e)
   ·exact (h.bimm s b hb').1 hi
   ·subst e;exact h.brho s b id o0 hb' hk0.at_
  ·intro k hb' e;rcases ymT H id k _ hb' e with ⟨ek,eb,_⟩ | ⟨ek,e'⟩
   ·subst ek;subst eb;exact ⟨b0,o0,hk0.at_,hk0.esz,hk0.cells,Dt hon _ _ rfl _ _ hk0.rows,fun _=>hrows,fun _=>.inr rfl,fun hfz=>(by simp at hfz)⟩
   ·obtain ⟨b,o,hk⟩:=h.heap k hb' e'
    by_cases hfk:hb'.fz=true
    ·have hkI:=hk.fz hfk;exact ⟨b,o,nW hon hk rfl rfl (fun _=>hkI)⟩
    ·have hne:b≠b0:=h.dist k id hb' b o b0 o0 e' (by simpa using hfk) ek hk.at_ hk0.at_;exact ⟨b,o,nW hon hk rfl rfl (fun hi=>hi.resolve_right hne)⟩
  ·intro k k' hb' b' o' b'' o'' e hfz hne h1 h2;rcases ymT H id k _ hb' e with ⟨ek,eb,_⟩ | ⟨ek,e'⟩
   ·subst eb;simp at hfz
   ·exact h.dist k k' hb' b' o' b'' o'' e' hfz hne h1 h2
  ·intro k b o e;rw [sN];exact h.rsome k b o e
  ·rintro b (hi | e)
   ·exact h.imm b hi
   ·subst e;exact hblt
 ·refine ⟨rfl,rfl,rfl,bW _,bW _,fun _ _ _ _=>rfl,fun _ _ x=>x,fun b _ hI=>?_,fun _ _ x=>x,hon⟩;rcases hI with hi | e
  ·exact .inl hi
  ·subst e;exact .inr ⟨id,o0,hk0.at_⟩
theorem Rel.grew (h:Rel E nt g F H tmps w) (hw:Bel w.heap.size w w') :
  ∃ g',Rel E nt g' F H tmps w'∧Nx g g' H H w w'∧g'.ρ=g.ρ∧g'.β=g.β∧g'.I=fun b=>g.I b∨(w.heap.size≤b∧b<w'.heap.size):=by
 let g':Gh:={ g with I:=fun b=>g.I b∨(w.heap.size≤b∧b<w'.heap.size) };have hon:On g g' H H w w':=by
  refine ⟨fun i hi=>⟨.inl hi,hw.block i (h.imm i hi)⟩,fun id hb e=>⟨hb,e,rfl,rfl,.inr ⟨rfl,rfl⟩⟩,fun b cur T e=>⟨cur,(hw.block b (Jo e)).trans e,rfl⟩,rfl⟩
 refine ⟨g',?_,?_,rfl,rfl,rfl⟩
 ·refine h.upd hon rfl hw.size (fun s b hb'=>⟨hw.block b (h.bimm s b hb').2,?_,fun ⟨i,oo,hr'⟩=>h.brho s b i oo hb' hr'⟩) ?_ h.dist h.rsome ?_
  ·rintro (hi | ⟨hi,_⟩)
   ·exact (h.bimm s b hb').1 hi
   ·have:=(h.bimm s b hb').2;omega
  ·intro k hb' e;obtain ⟨b,o,hk⟩:=h.heap k hb' e;have hlt':=h.brng ⟨k,o,hk.at_⟩;exact ⟨b,o,nW hon hk (hw.block b hlt') rfl (fun hi=>hi.resolve_right (fun x=>by omega))⟩
  ·rintro b (hi | ⟨_,e⟩)
   ·exact lF (h.imm b hi) hw.size
   ·exact e
 ·exact ⟨hw.os,hw.tape,hw.output,hw.drawn,hw.size,fun b hb _ _=>hw.block b hb,fun _ _ x=>x,fun b hb hI=>.inl (hI.resolve_right (fun x=>by omega)),fun _ _ x=>x,hon⟩
end
end Go.Pf
namespace Go.Pf
open Go
def yko:Value→Option PV
 | .bool b=>some (.bool b)
 | .int k n=>if k.min≤n∧n≤k.max then some (.int k n) else none
 | .slice none 0 0=>some .nils
 | .pointer none=>some .nilp
 | .nilFunc=>some .nilf
 | _=>none
def yfO:List Value→Option (List PV)
 | []=>some []
 | v::r=>match yko v,yfO r with
  | some x,some l=>some (x::l)
  | _,_=>none
def yrd:Value→Option PV
 | .agg cs=>(match yfO cs.toList with | some l=>some (.agg l) | none=>none)
 | v=>yko v
def nX:PV→PV
 | .nils=>.data []
 | x=>x
def zM:PV→PV
 | .agg l=>.agg (l.map nX)
 | x=>nX x
def AW:PV→Bool
 | .bool _ | .int _ _ | .data _=>true
 | _=>false
def Jr:PV→Bool
 | .agg l=>l.all AW
 | x=>AW x
def ykJ (P:Program) (t:TypeId):Option Bool:=
 match P.underlying t with
 | some (.struct _) | some (.array _ _)=>some true
 | some _=>some false
 | none=>none
def ydo (P:Program) (t:TypeId):Option Nat:=
 match P.info? t with
 | some i=>if 0<i.size then some i.size else none
 | none=>none
def pN (P:Program) (t:TypeId):Option Nat:=
 match P.info? t with
 | some i=>some i.bytes
 | none=>none
def yun (P:Program) (t:TypeId):Option PV:=
 match P.info? t with
 | some i=>(match i.zero with
  | some z=>(match yrd z with | some p=>if p.cells.length=i.size then some p else none | none=>none)
  | none=>none)
 | none=>none
def ycL (P:Program) (t:TypeId) (np:Bool:=false):Option (Bool×PV):=
 match yun P t with
 | some p=>some (if Jr (zM p)&&!np then (true,zM p) else (false,p))
 | none=>none
def opd:Operand→Option Opd
 | .tmp t=>some (.t t)
 | .const v=>(match yrd v with | some p=>some (.c p) | none=>none)
 | .global g=>some (.g g)
 | .func f=>some (.f f)
def dO:List Operand→Option (List Opd)
 | []=>some []
 | x::r=>match opd x,dO r with
  | some a,some l=>some (a::l)
  | _,_=>none
def jX:Option Operand→Option (Option Opd)
 | none=>some none
 | some x=>match opd x with | some a=>some (some a) | none=>none
def yvQ (P:Program) (fs:Array Field):List (Nat×Operand)→Option (List (Nat×Nat×Opd))
 | []=>some []
 | (i,x)::r=>match fs[i]?,opd x,yvQ P fs r with
  | some f,some a,some l=>(match P.info? f.type with | some j=>some ((f.offset,j.size,a)::l) | none=>none)
  | _,_,_=>none
def yvR (sz:Nat):List (Nat×Operand)→Option (List (Nat×Nat×Opd))
 | []=>some []
 | (i,x)::r=>match opd x,yvR sz r with
  | some a,some l=>some ((i*sz,sz,a)::l)
  | _,_=>none
def zN:List (Nat×Operand)→Option (List (Nat×Opd))
 | []=>some []
 | (i,x)::r=>match opd x,zN r with
  | some a,some l=>some ((i,a)::l)
  | _,_=>none
def Gg (P:Program) (sz:Nat) (rc:TypeId→Nat→Option (List (Nat×Option IntKind))):List Field→Nat→Option (List (Nat×Option IntKind))
 | [],_=>some []
 | f::r,off=>if f.offset+P.cellsOf f.type≤sz then (match rc f.type (off+f.offset),Gg P sz rc r off with
  | some a,some b=>some (a++b)
  | _,_=>none) else none
def Gi (z:Nat) (rc:Nat→Option (List (Nat×Option IntKind))):Nat→Nat→Option (List (Nat×Option IntKind))
 | 0,_=>some []
 | n+1,off=>match rc off,Gi z rc n (off+z) with
  | some a,some b=>some (a++b)
  | _,_=>none
def ypW (P:Program):Nat→TypeId→Nat→Option (List (Nat×Option IntKind))
 | 0,_,_=>none
 | d+1,t,off=>
  match P.underlying t with
  | some .bool=>if P.cellsOf t=1 then some [(off,none)] else none
  | some (.int q)=>if P.cellsOf t=1 then some [(off,some q)] else none
  | some (.struct fs) => if fs.all (·.name != "_") = true then Gg P (P.cellsOf t) (ypW P d) fs.toList off else none
  | some (.array n e)=>if n*P.cellsOf e≤P.cellsOf t then Gi (P.cellsOf e) (ypW P d e) n off else none
  | _=>none
def zO:Operand→Bool
 | .const (.slice none 0 0)=>true
 | _=>false
def Dw (P:Program) (op:BinOp) (t:TypeId) (x y:Operand):AOp:=
 match opd x,opd y with
 | some a,some b=>
  (match P.underlying t with
   | some (.int _)=>.bin op a b
   | some .bool=>(match op with | .eql=>.eqB false a b | .neq=>.eqB true a b | _=>.bad)
   | some (.struct _)=>(match ypW P 12 t 0 with
    | some idx=>if P.keyTypeAt 8 t&&!P.eqGuardType P.depth t then (match op with | .eql=>.eqA false (P.cellsOf t) idx a b | .neq=>.eqA true (P.cellsOf t) idx a b | _=>.bad) else .bad
    | none=>.bad)
   | some (.array _ _)=>(match ypW P 12 t 0 with
    | some idx=>if P.keyTypeAt 8 t&&!P.eqGuardType P.depth t then (match op with | .eql=>.eqA false (P.cellsOf t) idx a b | .neq=>.eqA true (P.cellsOf t) idx a b | _=>.bad) else .bad
    | none=>.bad)
   | some (.slice _)=>(match op with
    | .eql=>if zO y then .eqN false a else if zO x then .eqN false b else .bad
    | .neq=>if zO y then .eqN true a else if zO x then .eqN true b else .bad
    | _=>.bad)
   | _=>.bad)
 | _,_=>.bad
def Dx (P:Program) (b:Builtin) (ts:Array TypeId) (args:List Operand):AOp:=
 match b,dO args with
 | .len,some [x]=>(match (ts[0]?).bind P.underlying with | some (.slice _)=>.len x | _=>.bad)
 | .cap,some [x]=>(match (ts[0]?).bind P.underlying with | some (.slice _)=>.cap x | _=>.bad)
 | .append,some [s,x]=>
  (match ts.toList with
   | [t,t']=>if t=t' then (match P.underlying t with
     | some (.slice e)=>(match ydo P e,pN P e,ycL P e with
      | some sz,some by_,some (pu,_)=>.app pu sz by_ s x
      | _,_,_=>.bad)
     | _=>.bad) else (match P.underlying t,P.underlying t' with
     | some (.slice e),some (.int _)=>(match ydo P e,pN P e,ycL P e with
      | some sz,some by_,some (pu,z)=>.appZ pu sz by_ z s x
      | _,_,_=>.bad)
     | _,_=>.bad)
   | _=>.bad)
 | .clear,some [x]=>
  (match ts[0]? with
   | some t=>(match P.underlying t with
    | some (.slice e)=>(match ydo P e,ycL P e with
     | some sz,some (pu,z)=>.clr pu sz z x
     | _,_=>.bad)
    | _=>.bad)
   | none=>.bad)
 | .max,some l=>.minmax true l
 | .min,some l=>.minmax false l
 | _,_=>.bad
def yJX:Operand→Option (List PV)
 | .const (.string s)=>some (s.data.toList.map fun b=>PV.int .u8 b.toNat)
 | _=>none
def Gj (loc:List Nat):Option Nat→Bool
 | some d=>loc.contains d
 | none=>false
def Nv:Nat:=1000000
def jw:Nat:=4000000
def mkDL (loc:List Nat) (dst:Option Nat) (pu:Bool) (sz by_:Nat):Opd→Opd→Option Nat
 | .c (.int .i64 n),.c (.int .i64 m)=>if Gj loc (dst.map (·+5000000))=true∧pu=true∧0<n∧n=m∧n.toNat*sz≤2 ^ 24∧(n.toNat+64)*(by_+1)≤35184372088832 then some n.toNat else none
 | _,_=>none
def jN (P:Program) (loc:List Nat) (o:Oper):AOp:=
 match o.op with
 | .move x | .assign x=>(match opd x with | some a=>if Gj loc (o.dst.map (·+jw))=true then .mvD a else .mv a | none=>.bad)
 | .pick c a b=>(match opd c,opd a,opd b with | some c,some a,some b=>.pick c a b | _,_,_=>.bad)
 | .alloc e=>
  (match o.dst with
   | some d=>if loc.contains d then (match yun P e with | some z=>.aL z | none=>.bad)
    else (match ycL P e (loc.contains (d+Nv)),ydo P e with | some (pu,z),some sz=>.aH pu sz z | _,_=>.bad)
   | none=>.bad)
 | .box e x=>
  (match o.dst,opd x with
   | some d,some a=>if loc.contains d then .boxL a else (match ycL P e (loc.contains (d+Nv)),ydo P e with | some (pu,_),some sz=>.boxH pu sz a | _,_=>.bad)
   | _,_=>.bad)
 | .build t parts=>
  (match yun P t,P.underlying t with
   | some z,some (.struct fs)=>if fs.toList.all (fun f=>(P.info? f.type).isSome) then (match yvQ P fs parts.toList with | some ps=>.build z.cells ps | none=>.bad) else .bad
   | some z,some (.array _ e)=>(match P.info? e with | some i=>(match yvR i.size parts.toList with | some ps=>.build z.cells ps | none=>.bad) | none=>.bad)
   | _,_=>.bad)
 | .buildSlice t len parts=>
  (match P.underlying t with
   | some (.slice e)=>(match ydo P e,ycL P e,zN parts.toList with
    | some sz,some (pu,z),some ps=>if len*sz≤2 ^ 24∧(len≠0∨parts.toList.isEmpty=true) then (if pu=true∧Gj loc o.dst=true then .bD sz z len ps else if Gj loc (o.dst.map (·+2000000))=true then .buildN pu sz z len ps else .bSl pu sz z len ps) else .bad
    | _,_,_=>.bad)
   | _=>.bad)
 | .load t a=>(match ykJ P t,P.info? t,opd a with | some g,some i,some x=>.load g i.size x | _,_,_=>.bad)
 | .store t a v=>(match P.info? t,opd a,opd v with | some i,some x,some y=>.store i.size x y | _,_,_=>.bad)
 | .nilCheck x=>(match opd x with | some a=>.nilchk a | none=>.bad)
 | .defer c=>(match o.dst,c.callee with | none,.value (.func n)=>.dfr n | _,_=>.bad)
 | .binOp op t x y _=>Dw P op t x y
 | .unOp op _ x=>(match opd x with | some a=>.un op a | none=>.bad)
 | .convert s d x=>
  (match P.underlying s,P.underlying d,opd x with
   | some _,some (.int k),some a=>.conv k a
   | _,_,_=>.bad)
 | .makeFunc f a b=>(match f,dO a.toList,dO b.toList with | .func n,some a,some b=>.mkFn (.func n) a b | _,_,_=>.bad)
 | .makeSlice t l c=>
  (match P.underlying t,opd l,opd c with
   | some (.slice e),some l,some c=>(match ydo P e,pN P e,ycL P e (Gj loc (o.dst.map (·+Nv))) with
    | some sz,some by_,some (pu,z)=>(match mkDL loc o.dst pu sz by_ l c with | some n=>.bD sz z n [] | none=>.mkSl pu sz by_ z l c)
    | _,_,_=>.bad)
   | _,_,_=>.bad)
 | .slice t x lo hi mx=>
  (match P.underlying t,opd x,jX lo,jX hi,jX mx with
   | some (.slice e),some a,some l,some h,some m=>(match ydo P e with | some sz=>.slc sz a l h m | none=>.bad)
   | some (.array n e),some a,some none,some none,some none=>(match ydo P e with | some sz=>.slcA n sz a | none=>.bad)
   | _,_,_,_,_=>.bad)
 | .fieldAddr s x f=>
  (match P.underlying s,opd x with
   | some (.struct fs),some a=>(match fs[f]? with
    | some fl=>(match ydo P fl.type with | some _=>.fad fl.offset a | none=>.bad)
    | none=>.bad)
   | _,_=>.bad)
 | .field t x f=>
  (match P.underlying t,opd x with
   | some (.struct fs),some a=>(match fs[f]? with
    | some fl=>(match ykJ P fl.type,P.info? fl.type with | some g,some i=>.fld g i.size fl.offset a | _,_=>.bad)
    | none=>.bad)
   | _,_=>.bad)
 | .indexAddr t x i=>
  (match P.underlying t,opd x,opd i with
   | some (.slice e),some a,some b=>(match ydo P e with | some sz=>.iad sz a b | none=>.bad)
   | some (.array n e),some a,some b=>(match ydo P e with | some sz=>.iadA n sz a b | none=>.bad)
   | _,_,_=>.bad)
 | .index t x i=>
  (match P.underlying t,opd x,opd i with
   | some (.array n e),some a,some b=>(match ykJ P e,P.info? e with | some g,some j=>.idx g n j.size a b | _,_=>.bad)
   | some .string,_,some b=>(match yJX x with | some l=>.idx false l.length 1 (.c (.agg l)) b | none=>.bad)
   | _,_,_=>.bad)
 | .extract x i=>(match opd x with | some a=>.ext a i | none=>.bad)
 | .call c=>
  (match c.callee with
   | .value f=>(match opd f,dO c.args.toList with | some f,some az=>.call f az | _,_=>.bad)
   | .builtin b=>Dx P b c.argTypes c.args.toList
   | .invoke _ _=>.bad)
 | _=>.bad
def wW (o:Oper):List Nat:=o.after.toList.filterMap fun e=>match e.ground with | .textOnly _ | .gcOnly _=>none | _=>some e.on
def iO:List Oper→List Nat→List Nat
 | [],acc=>acc
 | o::r,acc=>iO r (acc++[(wW o).foldl (fun s i=>s|||2 ^ i|||acc.getD i 0) 0])
def sY (cl:List Nat):List (Nat×Nat):=
 (List.range cl.length).flatMap fun j=>(List.range j).filterMap fun i=>if (cl.getD j 0).testBit i then none else some (i,j)
def Dy (ops:List Oper):Bool:=(List.range ops.length).all fun j=>match ops[j]? with | some o=>(wW o).all (·<j) | none=>true
def yfD (P:Program) (loc:List Nat) (all:Array Oper):List Oper→Option (List AO)
 | []=>some []
 | o::r=>match yfD P loc all r with
  | some l=>(match o.guard with
   | none=>some (⟨o.dst,jN P loc o,none⟩::l)
   | some (j,want)=>(match (all[j]?).bind (·.dst) with
    | some s=>some (⟨o.dst,jN P loc o,some (s,want)⟩::l)
    | none=>none))
  | none=>none
def rD (nt:Nat):List Oper→Bool
 | []=>true
 | o::r=>(match o.dst with | some d=>decide (d<nt) | none=>true)&&rD nt r
def gQ:List Oper→Bool
 | []=>false
 | o::r=>(match o.op with | .defer _=>true | _=>false)||gQ r
def oS (P:Program) (loc:List Nat) (fg:Nat→List Nat) (nt:Nat) (inR:Bool) (id:Nat) (ops:Array Oper) (draw:Bool):AC:=
 if inR&&gQ ops.toList then .bad else
 match yfD P loc ops ops.toList with
 | some l=>if rD nt ops.toList then
  (if draw then (if Dy ops.toList then .ops l (sY (iO ops.toList [])) (fg id) else .bad)
   else .ops l [] (fg id)) else .bad
 | none=>.bad
def yGp (P:Program) (loc:List Nat) (fg:Nat→List Nat) (nt:Nat) (inR:Bool) (id:Nat) (ops:Array Oper) (c:AC) (e:Nat):Option AC:=
 if inR&&gQ ops.toList then none else
 match yfD P loc ops ops.toList with
 | some l=>if rD nt ops.toList then
  (match l.drop (l.length-2) with
   | [⟨some d,.call y args,none⟩,⟨some e',.un .not (.t d'),none⟩]=>if d'=d∧e'=e∧d≠e then some (.yret c (l.take (l.length-2)) d y args e (fg id)) else none
   | _=>none) else none
 | none=>none
def yaG (P:Program) (loc:List Nat) (fg:Nat→List Nat) (nt:Nat) (inR:Bool):Code→AC
 | .skip=>.skip
 | .region id ops draw=>oS P loc fg nt inR id ops draw
 | .seq a b=>
  (match a,b with
   | .region id ops false,.cond (.tmp e) .ret .skip=>
    (match yGp P loc fg nt inR id ops (.seq (oS P loc fg nt inR id ops false) (.cond (.t e) .ret .skip)) e with
     | some c=>c
     | none=>.seq (oS P loc fg nt inR id ops false) (.cond (.t e) .ret .skip))
   | _,_=>.seq (yaG P loc fg nt inR a) (yaG P loc fg nt inR b))
 | .cond c a b=>(match opd c with | some x=>.cond x (yaG P loc fg nt inR a) (yaG P loc fg nt inR b) | none=>.bad)
 | .block id b=>.block id (yaG P loc fg nt inR b)
 | .loop b=>(match fg 999999 with | []=>.loop (yaG P loc fg nt inR b) | _::_=>.lG (yaG P loc fg nt inR b))
 | .scope b=>yaG P loc fg nt inR b
 | .rangeFunc g ps az b=>(match opd g with
  | some x=>if inR then .bad else if ps.toList.all (fun p=>decide (p<nt)) then .rangeF x ps.toList (yaG P loc fg nt true az) (yaG P loc fg nt true b) else .bad
  | none=>.bad)
 | .exit id=>.exit id
 | .label _=>.skip
 | .ret=>.ret
 | _=>.bad
def yfF (P:Program):List ResultVar→Option (List ARes)
 | []=>some []
 | .tmp t::r=>(match yfF P r with | some l=>some (.tmp t::l) | none=>none)
 | .cell a t::r=>(match ykJ P t,P.info? t,yfF P r with | some g,some i,some l=>some (.cell a g i.size::l) | _,_,_=>none)
def mM (P:Program) (loc:List Nat) (fg:Nat→List Nat) (f:Func):Option AFn:=
 match f.body,yfF P f.results.toList with
 | some c, some rs => if f.name == "runtime.NumGoroutine" then none else some ⟨f.params.size + f.nfree, rs, yaG P loc fg f.ntmps false c⟩
 | _,_=>none
end Go.Pf
namespace Go.Pf
open Go Go.RowKit
section
variable {P:Program} {E:Env} {nt:Nat} {g g':Gh} {F:aD} {H H':Hp} {a:Act} {w w':World}
def gR (g:Gh) (H:Hp) (w:World):FV→Value→Prop
 | .v p,v=>VR g H w p v
 | .bp s o,v=>∃ b,g.β s=some b∧v=.pointer (some ⟨b,o,none⟩)
 | .box _,_=>False
theorem rE {k:IntKind} {n:Int} (h:inK k n):VR g H w (.int k n) (.int k n):=by unfold VR;exact ⟨rfl,h⟩
theorem vK (b:Bool):VR g H w (.bool b) (.bool b):=by unfold VR;rfl
theorem Js {v:Value} {p:PV} (h:yko v=some p):p.one=true∧VR g H w p v:=by
 unfold yko at h;split at h
 ·cases h;exact ⟨rfl,by simp [VR]⟩
 ·split at h
  ·rename_i hk;cases h;exact ⟨rfl,rE hk⟩
  ·cases h
 ·cases h;exact ⟨rfl,by simp [VR]⟩
 ·cases h;exact ⟨rfl,by simp [VR]⟩
 ·cases h;exact ⟨rfl,by simp [VR]⟩
 ·cases h
theorem Nw:∀ (l:List Value) (ps:List PV),yfO l=some ps→bM g H w ps l
 | [],ps,h=>by simp [yfO] at h;subst h;simp [bM]
 | v::r,ps,h=>by
  simp only [yfO] at h;split at h
  ·rename_i x l h1 h2
   cases h
   obtain ⟨o,hv⟩:=Js (g:=g) (H:=H) (w:=w) h1;simp only [bM];exact ⟨v,r,rfl,o,hv,Nw r l h2⟩
  ·cases h
theorem WW {v:Value} {p:PV} (h:yrd v=some p):VR g H w p v:=by
 unfold yrd at h;split at h
 ·rename_i cs;split at h
  ·rename_i l hl
   cases h
   simp only [VR];exact ⟨cs.toList,by simp,Nw _ _ hl⟩
  ·cases h
 ·exact (Js h).2
theorem mN (hr:Rel E nt g F H a.tmps w) {x:Operand} {x':Opd} {fv:FV} (hx:opd x=some x') (h:ev E F x'=some fv):gR g H w fv (a.eval x):=by
 cases x with
 | tmp t=>
  simp only [opd,bT] at hx;subst hx;simp only [ev] at h;simp only [Act.eval]
  cases hf:fget F t with
  | none=>rw [hf] at h;cases h
  | some y=>
   rw [hf] at h;have:=hr.frame t y hf
   cases y with
   | v p=>simp at h;subst h;exact this
   | box row =>simp at h;subst h;obtain ⟨b,h1,h2,_⟩:=this;exact ⟨b,h1,h2⟩
   | bp s o=>simp at h;subst h;exact this
 | const v=>
  simp only [opd] at hx;split at hx
  ·rename_i p hp
   cases hx
   simp only [ev,bT] at h;subst h;exact WW hp
  ·cases hx
 | global n=>
  simp only [opd,bT] at hx;subst hx;simp only [ev] at h;split at h
  ·rename_i y hy
   cases h
   obtain ⟨hI,vs,hl,hrc,hat⟩:=hr.glob n y hy;simp only [gR,VR,Act.eval];refine ⟨n,0,vs.length,by simp,hI,hl,by simp,?_⟩;simp only [dN];exact ⟨⟨vs,rfl,hrc,hat⟩,trivial⟩
  ·cases h
 | func n =>simp only [opd,bT] at hx;subst hx;simp only [ev,bT] at h;subst h;simp only [gR,VR,Act.eval];exact ⟨[],[],rfl,by simp [bH],by simp [bH],trivial⟩
theorem cS (hr:Rel E nt g F H a.tmps w) {x:Operand} {x':Opd} {p:PV} (hx:opd x=some x') (h:evV E F x'=some p):VR g H w p (a.eval x):=by
 unfold evV at h;split at h
 ·rename_i q hq
  cases h
  exact mN hr hx hq
 ·cases h
theorem oU (hr:Rel E nt g F H a.tmps w) {x:Operand} {x':Opd} {n:Int} (hx:opd x=some x') (h:yey E F x'=some n):∃ k,a.eval x=.int k n∧inK k n:=by
 unfold yey at h;split at h
 ·rename_i k m hq
  cases h
  have:=cS hr hx hq;simp only [VR] at this;exact ⟨k,this⟩
 ·cases h
theorem AX (hr:Rel E nt g F H a.tmps w):∀ (xs:List Operand) (xs':List Opd) (ps:List PV),dO xs=some xs'→evs E F xs'=some ps→bH g H w ps (xs.map a.eval)
 | [],xs',ps,hx,h=>by simp only [dO,bT] at hx;subst hx;simp only [evs,bT] at h;subst h;simp [bH]
 | x::r,xs',ps,hx,h=>by
  simp only [dO] at hx;split at hx
  ·rename_i x' r' h1 h2
   cases hx
   simp only [evs] at h;split at h
   ·rename_i p hp;split at h
    ·rename_i ps' hps
     cases h
     simp only [bH,sO];exact ⟨_,_,rfl,cS hr h1 hp,AX hr r r' ps' h2 hps⟩
    ·cases h
   ·cases h
  ·cases hx
def XR (g:Gh) (H:Hp) (w:World):Option FV→Value→Prop
 | some (.v p),v=>VR g H w p v
 | some (.bp s o),v=>∃ b,g.β s=some b∧v=.pointer (some ⟨b,o,none⟩)
 | some (.box _),_=>False
 | none,_=>True
def bS (E:Env) (nt:Nat) (g:Gh) (F:aD) (H:Hp) (tmps:Array Value) (w:World) (out:Out) (r:Result Next):Prop:=
 ∃ v w' g',(r=.ok (.value v) w'∨(r=.ok .skip w'∧v=undef))∧Nx g g' H out.h w w'∧Rel E nt g' (jA F out.bx) out.h tmps w'∧XR g' out.h w' out.x v
theorem bS.val (hr:Rel E nt g F H a.tmps w) {p:PV} {v:Value} {r:Result Next} (h:r=.ok (.value v) w) (hv:VR g H w p v):bS E nt g F H a.tmps w ⟨some (.v p),none,H⟩ r:=
 ⟨v,w,g,.inl h,Nx.refl g H w,hr,hv⟩
theorem cW {p:PV} {H:Hp} {out:Out} (h:outV p H=some out):out=⟨some (.v p),none,H⟩:=by simp only [outV,bT] at h;exact h.symm
section pureOps
variable {o:Oper} {out:Out}
theorem WX (hr:Rel E nt g F H a.tmps w) {x:Operand} {x':Opd} (ho:o.op=.move x∨o.op=.assign x) (hx:opd x=some x') {call} (h:yas E call F H (.mv x')=some out) :
  bS E nt g F H a.tmps w out ((execOp a.eval o).run P w):=by
 simp only [yas] at h;split at h
 ·rename_i p hp;rw [cW h];refine bS.val hr ?_ (cS hr hx hp);rcases ho with ho | ho<;>simp [execOp,ho]
 ·cases h
theorem jx (hr:Rel E nt g F H a.tmps w) {c x y:Operand} {c' x' y':Opd} (ho:o.op=.pick c x y) (hc:opd c=some c') (hx:opd x=some x') (hy:opd y=some y') {call} (h:yas E call F H (.pick c' x' y')=some out) :
  bS E nt g F H a.tmps w out ((execOp a.eval o).run P w):=by
 simp only [yas] at h;split at h
 ·rename_i hcv;split at h
  ·rename_i p hp;rw [cW h];refine bS.val hr ?_ (cS hr hx hp);have:=cS hr hc hcv;simp only [VR] at this;simp [execOp,ho,this,asBool]
  ·cases h
 ·rename_i hcv;split at h
  ·rename_i p hp;rw [cW h];refine bS.val hr ?_ (cS hr hy hp);have:=cS hr hc hcv;simp only [VR] at this;simp [execOp,ho,this,asBool]
  ·cases h
 ·cases h
theorem Dz (k:IntKind) (n:Int):inK k (k.wrap n):=by
 unfold inK IntKind.wrap IntKind.min IntKind.max;have h1:=Dg n (show (2 ^ k.bits:Int)≠0 by cases k<;>decide);have h2:=Db n (show (0:Int)<2 ^ k.bits by cases k<;>decide)
 cases k<;>simp [IntKind.signed,IntKind.bits] at h1 h2 ⊢ <;> (try split)<;>omega
theorem jy {op:BinOp} {k:IntKind} {x y:Int} {p:PV} (hk:op≠.shl) (hk':op≠.shr) (hx:inK k x) (hy:inK k y) (h:binI op k x y=some p) (t:TypeId) :
  ∃ v,(binOp op t (.int k x) (.int k y)).run P w=.ok v w∧VR g H w p v:=by
 cases op<;>simp only [binI] at h<;>(try (cases h))<;>first
  | (refine ⟨_,?_,rE (Dz _ _)⟩;unfold binOp;simp only [ne_eq,not_true_eq_false,if_false];rfl)
  | (refine ⟨_,?_,vK _⟩;unfold binOp;simp only [ne_eq,not_true_eq_false,if_false];rfl)
  | skip
 ·split at h
  ·cases h
  ·rename_i hy0
   cases h
   exact ⟨_,by simp [binOp,Op.intDiv,hy0],rE (Dz _ _)⟩
 ·split at h
  ·cases h
  ·rename_i hy0
   cases h
   refine ⟨.int k (x.tmod y),by simp [binOp,Op.intDiv,hy0],rE ?_⟩;unfold inK at hx ⊢;have ha:=Int.natAbs_tmod x y;rcases Int.le_total 0 x with hx0 | hx0
   ·have h1:=Int.tmod_nonneg y hx0;have h2:x.tmod y≤x:=by
     have:(x.tmod y).natAbs≤x.natAbs:=by rw [ha];exact Nat.mod_le _ _
     omega
    have:k.min≤0:=by cases k<;>decide
    omega
   ·have h1:x.tmod y≤0:=by
     have:=Int.tmod_nonneg y (show 0≤-x by omega);rw [Int.neg_tmod] at this;omega
    have h2:x≤x.tmod y:=by
     have:(x.tmod y).natAbs≤x.natAbs:=by rw [ha];exact Nat.mod_le _ _
     omega
    have:0≤k.max:=by cases k<;>decide
    omega
end pureOps
end
section
variable {P:Program} {E:Env} {nt:Nat} {g g':Gh} {F:aD} {H H':Hp} {a:Act} {w w':World} {o:Oper} {out:Out}
theorem jz (op:BinOp) (t:TypeId) (x y:Operand) (k k':IntKind) (m n:Int):(eqGuard op t x y (.int k m) (.int k' n)).run P w=.ok () w:=by unfold eqGuard;cases op<;>rfl
theorem WY (op:BinOp) (t:TypeId) (x y:Operand) (p q:Bool):(eqGuard op t x y (.bool p) (.bool q)).run P w=.ok () w:=by unfold eqGuard;cases op<;>rfl
theorem Jt (op:BinOp) (t:TypeId) (x y:Operand) (p q:Option Addr) (l c l' c':Nat):(eqGuard op t x y (.slice p l c) (.slice q l' c')).run P w=.ok () w:=by unfold eqGuard;cases op<;>rfl
theorem ka {k:IntKind} {x:Int} (n:Nat) (hx:inK k x):inK k (x.fdiv (2 ^ n)):=by
 have hp:(0:Int)<2 ^ n:=by exact_mod_cast Nat.two_pow_pos n
 rw [Int.fdiv_eq_ediv_of_nonneg _ (Int.le_of_lt hp)];unfold inK at hx ⊢;have h0:k.min≤0:=by cases k<;>decide
 have h1:0≤k.max:=by cases k<;>decide
 rcases Int.le_total 0 x with h|h
 ·have:=uT h (Int.le_of_lt hp);have:=yU (2 ^ n) h;omega
 ·have h2:x≤x/2 ^ n:=by
   apply Int.le_ediv_of_mul_le hp;have:x*(2 ^ n-1)≤0:=Int.mul_nonpos_of_nonpos_of_nonneg h (by omega);rw [Int.mul_sub] at this;omega
  have h3:x/2 ^ n≤0:=by have:=Int.ediv_le_ediv hp h;simpa using this
  omega
theorem Xa {op:BinOp} {k k':IntKind} {x y:Int} {p:PV} (hop:op=.shl∨op=.shr) (hx:inK k x) (h:Dl op k x y=some p) (t:TypeId) :
  ∃ v,(binOp op t (.int k x) (.int k' y)).run P w=.ok v w∧VR g H w p v:=by
 unfold Dl at h;split at h
 ·cases h
 ·rename_i hy;rcases hop with rfl | rfl
  ·simp only [bT] at h;subst h;exact ⟨_,by simp [binOp,Op.shift,hy],rE (Dz _ _)⟩
  ·simp only [bT] at h;subst h;exact ⟨_,by simp [binOp,Op.shift,hy],rE (ka _ hx)⟩
theorem kb {op:BinOp} {x y p:PV} {vx vy:Value} (hx:VR g H w x vx) (hy:VR g H w y vy) (h:binV op x y=some p) (t:TypeId) (ox oy:Operand) :
  ∃ v,(do eqGuard op t ox oy vx vy;binOp op t vx vy:Sem Value).run P w=.ok v w∧VR g H w p v:=by
 unfold binV at h;split at h
 ·rename_i k m k' n;simp only [VR] at hx hy;obtain ⟨rfl,hx⟩:=hx;obtain ⟨rfl,hy⟩:=hy;have key:∃ v,(binOp op t (.int k m) (.int k' n)).run P w=.ok v w∧VR g H w p v:=by
   split at h
   ·exact Xa (.inl rfl) hx h t
   ·exact Xa (.inr rfl) hx h t
   ·rename_i h1 h2;split at h
    ·rename_i e;subst e;exact jy h1 h2 hx hy h t
    ·cases h
  obtain ⟨v,hr,hv⟩:=key;exact ⟨v,by simp [jz,hr],hv⟩
 ·cases h
theorem kc (hr:Rel E nt g F H a.tmps w) {op:BinOp} {t t':TypeId} {x y:Operand} {x' y':Opd} (ho:o.op=.binOp op t x y t') (hx:opd x=some x') (hy:opd y=some y') {call} (h:yas E call F H (.bin op x' y')=some out) :
  bS E nt g F H a.tmps w out ((execOp a.eval o).run P w):=by
 simp only [yas] at h;split at h
 ·rename_i p q hp hq;split at h
  ·rename_i r hrr;rw [cW h];obtain ⟨v,h1,h2⟩:=kb (P:=P) (cS hr hx hp) (cS hr hy hq) hrr t x y;refine bS.val hr ?_ h2;simp only [execOp,ho,Sem.run_bind];simp only [Sem.run_bind] at h1;rw [h1];rfl
  ·cases h
 ·cases h
theorem kd {t:TypeId} (ht:P.underlying t=some .bool) (d:Nat) (p q:Bool):(Op.equalIn (d+1) t (.bool p) (.bool q)).run P w=.ok (p==q) w:=by simp [Op.equalIn,run_underlying ht]
theorem Xb (hr:Rel E nt g F H a.tmps w) {op:BinOp} {neg:Bool} {t t':TypeId} {x y:Operand} {x' y':Opd} (ho:o.op=.binOp op t x y t') (hn:(op=.eql∧neg=false)∨(op=.neq∧neg=true)) (ht:P.underlying t=some .bool)
  (hx:opd x=some x') (hy:opd y=some y') {call} (h:yas E call F H (.eqB neg x' y')=some out) :
  bS E nt g F H a.tmps w out ((execOp a.eval o).run P w):=by
 simp only [yas] at h;split at h
 ·rename_i p q hp hq;rw [cW h];have h1:=cS hr hx hp;have h2:=cS hr hy hq;simp only [VR] at h1 h2;have heq:∀ p q:Bool,(Op.equal t (.bool p) (.bool q)).run P w=.ok (p==q) w:=fun p q=>kd ht 9999 p q
  refine bS.val hr ?_ (vK _);rcases hn with ⟨rfl,rfl⟩ | ⟨rfl,rfl⟩
  ·simp only [execOp,ho,Sem.run_bind,h1,h2,WY,Result.andThen_ok,binOp,heq];rfl
  ·simp only [execOp,ho,Sem.run_bind,h1,h2,WY,Result.andThen_ok,binOp,heq];rfl
 ·cases h
def yeY (cs:List Value) (x:Nat×Option IntKind):Option Lit:=
 match cs[x.1]?,x.2 with
 | some (.bool b),none=>some (.bool b)
 | some (.int q n),some q'=>if q=q'∧(Lit.int q' n).wf=true then some (.int q' n) else none
 | _,_=>none
theorem Ny {α β:Type} {f:α→Option β}:∀ (l1 l2:List α) {r:List β},(l1++l2).mapM f=some r→∃ r1 r2,r=r1++r2∧l1.mapM f=some r1∧l2.mapM f=some r2
 | [],l2,r,h=>⟨[],r,rfl,by simp,by simpa using h⟩
 | x::l,l2,r,h=>by rw [wO,uV] at h;simp only [Option.bind_eq_bind,FU,Option.pure_def,bT] at h;obtain ⟨y,hy,ys,hys,rfl⟩:=h;obtain ⟨r1,r2,rfl,h1,h2⟩:=Ny l l2 hys;exact ⟨y::r1,r2,rfl,by rw [uV,hy];simp [h1],h2⟩
theorem Xc (P:Program) (sz d:Nat) (rc:TypeId→Nat→Option (List (Nat×Option IntKind)))
  (ih:∀ (t:TypeId) (off:Nat) (idx:List (Nat×Option IntKind)) (cs:List Value) (L:List Lit),rc t off=some idx→off+P.cellsOf t≤cs.length→idx.mapM (yeY cs)=some L→P.keyLits d t ((cs.drop off).take (P.cellsOf t))=some L) :
  ∀ (fs:List Field) (off:Nat) (idx:List (Nat×Option IntKind)) (cs:List Value) (L:List Lit),
  Gg P sz rc fs off=some idx→off+sz≤cs.length→idx.mapM (yeY cs)=some L →
  ((fs.mapM fun f=>P.keyLits d f.type ((((cs.drop off).take sz).drop f.offset).take (P.cellsOf f.type))).map List.flatten)=some L
 | [],off,idx,cs,L,h,_,hm=>by simp [Gg] at h;subst h;simp at hm;subst hm;simp
 | f::r,off,idx,cs,L,h,hl,hm=>by
  unfold Gg at h;split at h
  ·rename_i hsz;split at h
   ·rename_i i1 i2 e1 e2
    cases h
    obtain ⟨L1,L2,rfl,hm1,hm2⟩:=Ny i1 i2 hm;have hA:=ih f.type (off+f.offset) i1 cs L1 e1 (by omega) hm1;have hB:=Xc P sz d rc ih r off i2 cs L2 e2 hl hm2;have hseg:(((cs.drop off).take sz).drop f.offset).take (P.cellsOf f.type)=(cs.drop (off+f.offset)).take (P.cellsOf f.type):=by
     rw [List.drop_take,List.drop_drop,List.take_take,Dh (by omega)]
    rw [uV,hseg,hA];simp only [mI] at hB;obtain ⟨LL,hLL,rfl⟩:=hB;simp [hLL]
   ·cases h
  ·cases h
theorem Xd (P:Program) (e:TypeId) (sz d:Nat) (rc:Nat→Option (List (Nat×Option IntKind)))
  (ih:∀ (off:Nat) (idx:List (Nat×Option IntKind)) (cs:List Value) (L:List Lit),rc off=some idx→off+P.cellsOf e≤cs.length→idx.mapM (yeY cs)=some L→P.keyLits d e ((cs.drop off).take (P.cellsOf e))=some L) :
  ∀ (n k off:Nat) (idx:List (Nat×Option IntKind)) (cs:List Value) (L:List Lit),
  Gi (P.cellsOf e) rc n (off+k*P.cellsOf e)=some idx→(k+n)*P.cellsOf e≤sz→off+sz≤cs.length→idx.mapM (yeY cs)=some L →
  (((List.range' k n).mapM fun i=>P.keyLits d e ((((cs.drop off).take sz).drop (i*P.cellsOf e)).take (P.cellsOf e))).map List.flatten)=some L
 | 0,k,off,idx,cs,L,h,_,_,hm=>by simp [Gi] at h;subst h;simp at hm;subst hm;simp
 | n+1,k,off,idx,cs,L,h,hs,hl,hm=>by
  unfold Gi at h;split at h
  ·rename_i i1 i2 e1 e2
   cases h
   obtain ⟨L1,L2,rfl,hm1,hm2⟩:=Ny i1 i2 hm;have hk:(k+1)*P.cellsOf e≤sz:=jT (gK _ (by omega)) hs;rw [dC,iZ] at hk;have hA:=ih (off+k*P.cellsOf e) i1 cs L1 e1 (by omega) hm1;have hB:=Xd P e sz d rc ih n (k+1) off i2 cs L2 (by rw [dC,iZ,← uW];exact e2) (by rw [Nat.add_right_comm,uW];exact hs) hl hm2;have hseg:(((cs.drop off).take sz).drop (k*P.cellsOf e)).take (P.cellsOf e)=(cs.drop (off+k*P.cellsOf e)).take (P.cellsOf e):=by
    rw [List.drop_take,List.drop_drop,List.take_take,Dh (by omega)]
   rw [List.range'_succ,uV,hseg,hA];simp only [mI] at hB;obtain ⟨LL,hLL,rfl⟩:=hB;simp [hLL]
  ·cases h
theorem Ju (P:Program):∀ (d:Nat) (t:TypeId) (off:Nat) (idx:List (Nat×Option IntKind)) (cs:List Value) (L:List Lit),
  ypW P d t off=some idx→off+P.cellsOf t≤cs.length→idx.mapM (yeY cs)=some L→P.keyLits d t ((cs.drop off).take (P.cellsOf t))=some L
 | 0,t,off,idx,cs,L,h,_,_=>by simp [ypW] at h
 | d+1,t,off,idx,cs,L,h,hl,hm=>by
  have one:P.cellsOf t=1→∃ v,cs[off]?=some v∧(cs.drop off).take 1=[v]:=by
   intro h1;rw [h1] at hl;have hlt:off<cs.length:=by omega
   exact ⟨cs[off],dU hlt,by rw [Jg hlt];rfl⟩
  unfold ypW at h;unfold Program.keyLits;split at h
  ·rename_i hu;split at h
   ·rename_i h1
    cases h
    obtain ⟨v,hv,hc⟩:=one h1;rw [h1,hc,hu];rw [uV] at hm;simp only [yeY,hv,Option.bind_eq_bind,FU,List.mapM_nil,Option.pure_def,bT,exists_eq_left'] at hm;obtain ⟨l,h2,rfl⟩:=hm;split at h2<;>first | (rename_i hvv;simp at hvv;subst hvv;cases h2;rfl) | simp_all
   ·cases h
  ·rename_i q hu;split at h
   ·rename_i h1
    cases h
    obtain ⟨v,hv,hc⟩:=one h1;rw [h1,hc,hu];rw [uV] at hm;simp only [yeY,hv,Option.bind_eq_bind,FU,List.mapM_nil,Option.pure_def,bT,exists_eq_left'] at hm;obtain ⟨l,h2,rfl⟩:=hm;split at h2
    ·simp_all
    ·rename_i q' n q'' e1 e2;simp at e1 e2;subst e1;subst e2;simp only;split at h2
     ·rename_i hq;cases h2;rw [WM hq]
     ·cases h2
    ·cases h2
   ·cases h
  ·rename_i fs hu;split at h
   ·rename_i hn;have hlen:((cs.drop off).take (P.cellsOf t)).length=P.cellsOf t:=by
     rw [kW,kD];omega
    rw [hu];simp only [hlen,hn,and_self,if_true];exact Xc P (P.cellsOf t) d (ypW P d) (Ju P d) fs.toList off idx cs L h hl hm
   ·cases h
  ·rename_i n e hu;split at h
   ·rename_i hn;have hlen:((cs.drop off).take (P.cellsOf t)).length=P.cellsOf t:=by
     rw [kW,kD];omega
    rw [hu];simp only [hlen,if_true];rw [CZ];exact Xd P e (P.cellsOf t) d (ypW P d e) (Ju P d e) n 0 off idx cs L (by rw [Nat.zero_mul,uY];exact h) (by rw [iK];exact hn) hl hm
   ·cases h
  ·cases h
theorem rG:∀ (l:List PV) (vs:List Value),bM g H w l vs→vs.length=l.length
 | [],vs,h=>by simp only [bM] at h;subst h;rfl
 | x::r,vs,h=>by simp only [bM] at h;obtain ⟨v,vr,rfl,_,_,h2⟩:=h;simp [rG r vr h2]
theorem Jv:∀ (l:List PV) (vs:List Value) (i:Nat) (x:PV),bM g H w l vs→l[i]?=some x→∃ v,vs[i]?=some v∧x.one=true∧VR g H w x v
 | [],vs,i,x,h,e=>by simp at e
 | y::r,vs,0,x,h,e=>by simp only [bM] at h;obtain ⟨v,vr,rfl,o,h1,h2⟩:=h;simp at e;subst e;exact ⟨v,rfl,o,h1⟩
 | y::r,vs,i+1,x,h,e=>by simp only [bM] at h;obtain ⟨v,vr,rfl,o,h1,h2⟩:=h;simp at e;simpa using Jv r vr i x h2 e
theorem Xe {a b:List PV} {xs ys:List Value} (ha:bM g H w a xs) (hb:bM g H w b ys):∀ (idx:List (Nat×Option IntKind)) (r:Bool),eqL a b idx=some r →
  ∃ la lb,idx.mapM (yeY xs)=some la∧idx.mapM (yeY ys)=some lb∧(r=true↔la=lb)
 | [],r,h=>by simp [eqL] at h;subst h;exact ⟨[],[],by simp,by simp,by simp⟩
 | (i,k)::rest,r,h=>by
  simp only [eqL] at h;split at h
  ·rename_i x y hx hy;split at h
   ·rename_i p q hp hq
    cases h
    obtain ⟨vx,e1,_,v1⟩:=Jv a xs i x ha hx;obtain ⟨vy,e2,_,v2⟩:=Jv b ys i y hb hy;obtain ⟨la,lb,h1,h2,h3⟩:=Xe ha hb rest q hq;have key:∃ l1 l2,yeY xs (i,k)=some l1∧yeY ys (i,k)=some l2∧(p=true↔l1=l2):=by
     unfold eq1 at hp;split at hp
     ·split at hp
      ·rename_i hk;obtain ⟨rfl,rfl⟩:=hk
       cases hp
       simp only [VR] at v1 v2;obtain ⟨rfl,w1⟩:=v1;obtain ⟨rfl,w2⟩:=v2;refine ⟨_,_,by simp only [yeY,e1];rw [WM ⟨trivial,by simpa [Lit.wf,inK] using w1⟩],by simp only [yeY,e2];rw [WM ⟨trivial,by simpa [Lit.wf,inK] using w2⟩],by simp⟩
      ·cases hp
     ·rename_i b1 b2
      cases hp
      simp only [VR] at v1 v2;subst v1;subst v2;exact ⟨_,_,by simp [yeY,e1];rfl,by simp [yeY,e2];rfl,by simp⟩
     ·cases hp
    obtain ⟨l1,l2,k1,k2,k3⟩:=key;refine ⟨l1::la,l2::lb,by rw [uV,k1];simp [h1],by rw [uV,k2];simp [h2],?_⟩;simp [k3,h3]
   ·cases h
  ·cases h
theorem ke {t:TypeId} {idx:List (Nat×Option IntKind)} {a b:List PV} {xs ys:List Value} {r:Bool} (hf:ypW P 12 t 0=some idx) (hk:P.keyTypeAt 8 t=true) (hs:(∃ fs,P.underlying t=some (.struct fs))∨∃ n e,P.underlying t=some (.array n e))
  (hla:a.length=P.cellsOf t) (hlb:b.length=P.cellsOf t) (ha:bM g H w a xs) (hb:bM g H w b ys) (h:eqL a b idx=some r):(Op.equal t (.agg xs.toArray) (.agg ys.toArray)).run P w=.ok r w:=by
 obtain ⟨la,lb,h1,h2,h3⟩:=Xe ha hb idx r h;have lx:=rG a xs ha;have ly:=rG b ys hb;have k1:=Ju P 12 t 0 idx xs la hf (by omega) h1;have k2:=Ju P 12 t 0 idx ys lb hf (by omega) h2;simp only [qX] at k1 k2;rw [wJ (by omega)] at k1 k2;have fo:∀ zs:List Value,zs.length=P.cellsOf t→(Value.agg zs.toArray).formed P t=true:=by
  intro zs hz;rcases hs with ⟨fs,hs⟩ | ⟨n,e,hs⟩
  ·simp [Value.formed,hs,hz]
  ·simp [Value.formed,hs,hz]
 obtain ⟨r',hr',hiff⟩:=run_equalIn_deep (P:=P) (10000-8) 8 t hk w 12 12 (.agg xs.toArray) (.agg ys.toArray) la lb (fo xs (by omega)) (fo ys (by omega)) (by simpa [Value.cells] using k1) (by simpa [Value.cells] using k2);have e:r'=r:=by
  rw [Bool.eq_iff_iff,hiff,h3]
 rw [← e];exact hr'
theorem Jw (hr:Rel E nt g F H a.tmps w) {op:BinOp} {neg:Bool} {t t':TypeId} {idx:List (Nat×Option IntKind)} {x y:Operand} {x' y':Opd} (ho:o.op=.binOp op t x y t') (hn:(op=.eql∧neg=false)∨(op=.neq∧neg=true))
  (hf:ypW P 12 t 0=some idx) (hk:P.keyTypeAt 8 t=true) (hs:(∃ fs,P.underlying t=some (.struct fs))∨∃ n e,P.underlying t=some (.array n e)) (hg:P.eqGuardType P.depth t=false)
  (hx:opd x=some x') (hy:opd y=some y') {call} (h:yas E call F H (.eqA neg (P.cellsOf t) idx x' y')=some out) :
  bS E nt g F H a.tmps w out ((execOp a.eval o).run P w):=by
 simp only [yas] at h;split at h
 ·rename_i p q hp hq;split at h
  ·rename_i hl;split at h
   ·rename_i r hrr;rw [cW h];have h1:=cS hr hx hp;have h2:=cS hr hy hq;simp only [VR] at h1 h2;obtain ⟨xs,e1,v1⟩:=h1;obtain ⟨ys,e2,v2⟩:=h2;have he:=ke (P:=P) hf hk hs hl.1 hl.2 v1 v2 hrr;have hgd:(eqGuard op t x y (.agg xs.toArray) (.agg ys.toArray)).run P w=.ok () w:=by
     rcases hn with ⟨rfl,_⟩ | ⟨rfl,_⟩<;>(unfold eqGuard;simp [hg])
    refine bS.val hr ?_ (vK _);rcases hn with ⟨rfl,rfl⟩ | ⟨rfl,rfl⟩
    ·simp only [execOp,ho,Sem.run_bind,e1,e2,hgd,Result.andThen_ok,binOp,he];rfl
    ·simp only [execOp,ho,Sem.run_bind,e1,e2,hgd,Result.andThen_ok,binOp,he];rfl
   ·cases h
  ·cases h
 ·cases h
theorem Xf {p:PV} {v:Value} (h:VR g H w p v) (hp:(∃ x r,p=.data (x::r))∨∃ i l n e c,p=.own i l n e c):∃ ad len c,v=.slice (some ad) len c:=by
 rcases hp with ⟨x,r,rfl⟩|⟨i,l,n,e,c,rfl⟩
 ·simp only [VR,RC] at h;obtain ⟨ad,len,cap,e,_,_,_,h⟩:=h;simp only [kJ,and_true] at e;rcases h with h | ⟨b,o,esz,rfl,_⟩
  ·cases h
  ·exact ⟨_,_,_,e⟩
 ·simp only [VR] at h;obtain ⟨hb,ad,c',_,_,e,_⟩:=h;exact ⟨_,_,_,e⟩
theorem Xg {y:Operand} (h:zO y=true):a.eval y=.slice none 0 0:=by
 unfold zO at h;split at h
 ·rfl
 ·cases h
theorem Jx (hr:Rel E nt g F H a.tmps w) {op:BinOp} {neg:Bool} {t t' e:TypeId} {x y z:Operand} {z':Opd} (ho:o.op=.binOp op t x y t') (hn:(op=.eql∧neg=false)∨(op=.neq∧neg=true)) (ht:P.underlying t=some (.slice e))
  (hz:(z=x∧zO y=true)∨(z=y∧zO x=true)) (hz':opd z=some z') {call} (h:yas E call F H (.eqN neg z')=some out) :
  bS E nt g F H a.tmps w out ((execOp a.eval o).run P w):=by
 have key:∀ (b:Bool) (k:Option Addr) (l c:Nat),a.eval z=.slice k l c→k.isNone=b→out=⟨some (.v (.bool (if neg then !b else b))),none,H⟩→bS E nt g F H a.tmps w out ((execOp a.eval o).run P w):=by
  intro b k l c hev hb ho';subst ho';subst hb;have h1:(Op.equal t (.slice k l c) (.slice none 0 0)).run P w=.ok k.isNone w:=by
   have:∀ d,(Op.equalIn (d+1) t (.slice k l c) (.slice none 0 0)).run P w=.ok k.isNone w:=by intro d;cases k<;>simp [Op.equalIn,run_underlying ht]
   exact this 9999
  have h2:(Op.equal t (.slice none 0 0) (.slice k l c)).run P w=.ok k.isNone w:=by
   have:∀ d,(Op.equalIn (d+1) t (.slice none 0 0) (.slice k l c)).run P w=.ok k.isNone w:=by intro d;cases k<;>simp [Op.equalIn,run_underlying ht]
   exact this 9999
  refine bS.val hr ?_ (vK _);rcases hz with ⟨rfl,hy⟩ | ⟨rfl,hx⟩
  ·have hy':=Xg (a:=a) hy;rcases hn with ⟨rfl,rfl⟩ | ⟨rfl,rfl⟩
   ·simp only [execOp,ho,Sem.run_bind,hev,hy',Jt,Result.andThen_ok,binOp,h1];rfl
   ·simp only [execOp,ho,Sem.run_bind,hev,hy',Jt,Result.andThen_ok,binOp,h1];rfl
  ·have hx':=Xg (a:=a) hx;rcases hn with ⟨rfl,rfl⟩ | ⟨rfl,rfl⟩
   ·simp only [execOp,ho,Sem.run_bind,hev,hx',Jt,Result.andThen_ok,binOp,h2];rfl
   ·simp only [execOp,ho,Sem.run_bind,hev,hx',Jt,Result.andThen_ok,binOp,h2];rfl
 simp only [yas] at h;split at h
 ·rename_i hp;have h1:=cS hr hz' hp;simp only [VR] at h1;exact key true _ _ _ h1 rfl (by rw [cW h];cases neg<;>rfl)
 ·rename_i b hp;have h1:=cS hr hz' hp;simp only [VR] at h1;obtain ⟨k,c,h1,_,hb⟩:=h1;exact key b _ _ _ h1 hb (cW h)
 ·rename_i x r hp;obtain ⟨ad,l,c,e⟩:=Xf (cS hr hz' hp) (.inl ⟨_,_,rfl⟩);exact key false _ _ _ e rfl (by rw [cW h];cases neg<;>rfl)
 ·rename_i hp;obtain ⟨ad,l,c,e⟩:=Xf (cS hr hz' hp) (.inr ⟨_,_,_,_,_,rfl⟩);exact key false _ _ _ e rfl (by rw [cW h];cases neg<;>rfl)
 ·cases h
theorem kf (hr:Rel E nt g F H a.tmps w) {op:UnOp} {t:TypeId} {x:Operand} {x':Opd} (ho:o.op=.unOp op t x) (hx:opd x=some x') {call} (h:yas E call F H (.un op x')=some out) :
  bS E nt g F H a.tmps w out ((execOp a.eval o).run P w):=by
 simp only [yas] at h;split at h
 ·rename_i p hp;split at h
  ·rename_i r hrr;rw [cW h];have h1:=cS hr hx hp;unfold unV at hrr;split at hrr
   ·rename_i k n;simp only [VR] at h1;obtain ⟨h1,hk⟩:=h1;split at hrr
    ·cases hrr
     exact bS.val hr (by simp only [execOp,ho,h1,Op.unary,Op.intArith];rfl) (rE (Dz _ _))
    ·cases hrr
     exact bS.val hr (by simp only [execOp,ho,h1,Op.unary,Op.intBits];rfl) (rE (Dz _ _))
    ·cases hrr
   ·rename_i b;simp only [VR] at h1;split at hrr
    ·cases hrr
     exact bS.val hr (by simp only [execOp,ho,h1,Op.unary];rfl) (vK _)
    ·cases hrr
   ·cases hrr
  ·cases h
 ·cases h
theorem kg (hr:Rel E nt g F H a.tmps w) {s d:TypeId} {k:IntKind} {x:Operand} {x':Opd} {ds:TypeDesc} (ho:o.op=.convert s d x) (hs:P.underlying s=some ds) (hd:P.underlying d=some (.int k)) (hx:opd x=some x') {call} (h:yas E call F H (.conv k x')=some out) :
  bS E nt g F H a.tmps w out ((execOp a.eval o).run P w):=by
 simp only [yas] at h;split at h
 ·rename_i q n hp;rw [cW h];have h1:=cS hr hx hp;simp only [VR] at h1;refine bS.val hr ?_ (rE (Dz k n));simp [execOp,ho,h1.1,convert,run_underlying hs,run_underlying hd,Conv.intToInt]
 ·cases h
theorem kh (hr:Rel E nt g F H a.tmps w) {n:FuncId} {xs ys:Array Operand} {xs' ys':List Opd} (ho:o.op=.makeFunc (.func n) xs ys) (hx:dO xs.toList=some xs') (hy:dO ys.toList=some ys') {call} (h:yas E call F H (.mkFn (.func n) xs' ys')=some out) :
  bS E nt g F H a.tmps w out ((execOp a.eval o).run P w):=by
 simp only [yas] at h;split at h
 ·rename_i p q hp hq;rw [cW h];refine bS.val hr (v:=.func (.func n) (xs.map a.eval) (ys.map a.eval)) (by simp [execOp,ho,Instr.makeFunc]) ?_;simp only [VR];refine ⟨xs.toList.map a.eval,ys.toList.map a.eval,?_,AX hr _ _ _ hx hp,AX hr _ _ _ hy hq,trivial⟩;rw [← Dd,← Dd];rfl
 ·cases h
theorem Xh:∀ (l:List PV) (vs:List Value) (i:Nat) (x:PV),bH g H w l vs→l[i]?=some x→∃ v,vs[i]?=some v∧VR g H w x v
 | [],vs,i,x,h,e=>by simp at e
 | y::r,vs,0,x,h,e=>by simp only [bH] at h;obtain ⟨v,vr,rfl,h1,h2⟩:=h;simp at e;subst e;exact ⟨v,rfl,h1⟩
 | y::r,vs,i+1,x,h,e=>by simp only [bH] at h;obtain ⟨v,vr,rfl,h1,h2⟩:=h;simp at e;simpa using Xh r vr i x h2 e
theorem ki (hr:Rel E nt g F H a.tmps w) {x:Operand} {x':Opd} {i:Nat} (ho:o.op=.extract x i) (hx:opd x=some x') {call} (h:yas E call F H (.ext x' i)=some out) :
  bS E nt g F H a.tmps w out ((execOp a.eval o).run P w):=by
 simp only [yas] at h;split at h
 ·rename_i vs hp;split at h
  ·rename_i p hi;rw [cW h];have h1:=cS hr hx hp;simp only [VR] at h1;obtain ⟨us,e,hus⟩:=h1;obtain ⟨v,hv,hvr⟩:=Xh vs us i p hus hi;exact bS.val hr (by simp [execOp,ho,e,Instr.extract,hv]) hvr
  ·cases h
 ·cases h
theorem Nz {p:PV} {v:Value} {n:Nat} (h:VR g H w p v) (hn:lenV p=some n):∃ k c,v=.slice k n c∧n≤c∧c≤maxLen∧(k=none→n=0):=by
 unfold lenV at hn;split at hn
 ·cases hn;simp only [VR] at h;exact ⟨_,_,h,bW _,kF _,fun _=>rfl⟩
 ·cases hn;simp only [VR] at h;obtain ⟨k,h⟩:=h;exact ⟨_,_,h,bW _,kF _,fun _=>rfl⟩
 ·cases hn;simp only [VR] at h;obtain ⟨k,c,h,hc,_⟩:=h;exact ⟨_,_,h,kF _,hc,fun _=>rfl⟩
 ·rename_i rows
  cases hn
  simp only [VR,RC] at h;obtain ⟨k,len,cap,e,hl,hc,hm,h⟩:=h;simp only [kJ,and_true] at e;subst hl;refine ⟨k,cap,e,hc,hm,fun hk=>?_⟩;rcases h with rfl | ⟨b,o,esz,rfl,_⟩
  ·rfl
  ·cases hk
 ·cases hn
  simp only [VR] at h;obtain ⟨hb,ad,c,_,_,e,hc,hm,_⟩:=h;exact ⟨_,_,e,hc,hm,fun hk=>by cases hk⟩
 ·cases hn
  simp only [VR] at h;obtain ⟨ad,_,e,hm⟩:=h;exact ⟨_,_,e,bW _,by unfold maxLen;omega,fun hk=>by cases hk⟩
 ·cases hn
theorem Xi {n:Nat} (h:n≤maxLen):inK .i64 n:=by
 unfold maxLen at h;unfold inK;have h1:IntKind.min .i64=-9223372036854775808:=by decide
 have h2:IntKind.max .i64=9223372036854775807:=by decide
 rw [h1,h2];omega
theorem kj (hr:Rel E nt g F H a.tmps w) {c:Call} {x:Operand} {x':Opd} {t e:TypeId} (ho:o.op=.call c) (hc:c.callee=.builtin .len) (hargs:c.args.toList=[x]) (ht:c.argTypes[0]?=some t) (hu:P.underlying t=some (.slice e)) (hx:opd x=some x') {call} (h:yas E call F H (.len x')=some out) :
  bS E nt g F H a.tmps w out ((execOp a.eval o).run P w):=by
 simp only [yas] at h;split at h
 ·rename_i p hp;split at h
  ·rename_i n hn;rw [cW h];obtain ⟨k,cc,e1,h1,h2,_⟩:=Nz (cS hr hx hp) hn;refine bS.val hr ?_ (rE (Xi (jT h1 h2)));have ha:c.args=#[x]:=by rw [← qW];simpa using hargs
   simp [execOp,ho,resolve,hc,ha,invoke,builtin,Builtin.len_,ht,e1,run_underlying hu,goInt]
  ·cases h
 ·cases h
theorem kl {p:PV} {v:Value} {n:Nat} (h:VR g H w p v) (hn:capV p=some n):∃ k l,v=.slice k l n∧n≤maxLen:=by
 unfold capV at hn;split at hn
 ·cases hn;simp only [VR] at h;exact ⟨_,_,h,kF _⟩
 ·cases hn;simp only [VR] at h;obtain ⟨k,h⟩:=h;exact ⟨_,_,h,kF _⟩
 ·rename_i id lo len ext c
  cases hn
  simp only [VR] at h;obtain ⟨hb,ad,c',e,_,ev,hc,hm,hcc,hk⟩:=h
  cases hcc _ rfl
  exact ⟨_,_,ev,hm⟩
 ·cases hn
theorem km (hr:Rel E nt g F H a.tmps w) {c:Call} {x:Operand} {x':Opd} {t e:TypeId} (ho:o.op=.call c) (hc:c.callee=.builtin .cap) (hargs:c.args.toList=[x]) (ht:c.argTypes[0]?=some t) (hu:P.underlying t=some (.slice e)) (hx:opd x=some x') {call} (h:yas E call F H (.cap x')=some out) :
  bS E nt g F H a.tmps w out ((execOp a.eval o).run P w):=by
 simp only [yas] at h;split at h
 ·rename_i p hp;split at h
  ·rename_i n hn;rw [cW h];obtain ⟨k,cc,e1,h1⟩:=kl (cS hr hx hp) hn;refine bS.val hr ?_ (rE (Xi h1));have ha:c.args=#[x]:=by rw [← qW];simpa using hargs
   simp [execOp,ho,resolve,hc,ha,invoke,builtin,Builtin.cap_,ht,e1,run_underlying hu,goInt]
  ·cases h
 ·cases h
theorem Xj (mx:Bool):∀ (ps:List PV) (p r:PV) (v:Value) (vs:List Value),VR g H w p v→bH g H w ps vs→yul mx p ps=some r →
  ∃ u,(vs.foldlM (if mx then Builtin.max2 else Builtin.min2) v).run P w=.ok u w∧VR g H w r u
 | [],p,r,v,vs,hp,hps,h=>by simp only [bH] at hps;subst hps;simp [yul] at h;subst h;exact ⟨v,by simp,hp⟩
 | q::ps,p,r,v,vs,hp,hps,h=>by
  simp only [bH] at hps;obtain ⟨u,us,rfl,hq,hps⟩:=hps;unfold yul at h;split at h
  ·rename_i heq;cases heq
  ·rename_i k m k' n rest e;split at h
   ·rename_i hk;subst hk
    cases e
    simp only [VR] at hp hq;obtain ⟨rfl,hp⟩:=hp;obtain ⟨rfl,hq⟩:=hq;obtain ⟨u',hu',hv'⟩:=Xj mx ps _ r (.int k (if mx then (if n>m then n else m) else (if n<m then n else m))) us (rE (by cases mx<;>simp<;>split<;>assumption)) hps h;refine ⟨u',?_,hv'⟩;rw [List.foldlM_cons]
    cases mx
    ·simp only [gE,if_false] at hu' ⊢;simp only [Sem.run_bind,Builtin.min2,Sem.run_pure,Result.andThen_ok];exact hu'
    ·simp only [if_true] at hu' ⊢;simp only [Sem.run_bind,Builtin.max2,Sem.run_pure,Result.andThen_ok];exact hu'
   ·cases h
  ·cases h
theorem Xk (hr:Rel E nt g F H a.tmps w) {c:Call} {mx:Bool} {xs':List Opd} (ho:o.op=.call c) (hc:c.callee=.builtin (if mx then .max else .min)) (hx:dO c.args.toList=some xs') {call} (h:yas E call F H (.minmax mx xs')=some out) :
  bS E nt g F H a.tmps w out ((execOp a.eval o).run P w):=by
 simp only [yas] at h;split at h
 ·rename_i p ps hps;split at h
  ·rename_i r hrr;rw [cW h];have hvs:=AX hr _ _ _ hx hps;simp only [bH] at hvs;obtain ⟨v,vs,e,hv,hvs⟩:=hvs;obtain ⟨u,hu,hur⟩:=Xj (P:=P) mx ps p r v vs hv hvs hrr;refine bS.val hr ?_ hur;have he:(c.args.map a.eval).toList=v::vs:=by simpa using e
   cases mx
   ·simp only [gE,if_false] at hc hu;simp only [execOp,ho,resolve,hc,pure_bind,invoke,builtin,Builtin.min_,he,Sem.run_bind,hu];rfl
   ·simp only [if_true] at hc hu;simp only [execOp,ho,resolve,hc,pure_bind,invoke,builtin,Builtin.max_,he,Sem.run_bind,hu];rfl
  ·cases h
 ·cases h
theorem zP {row:PV} {vs:List Value} (h:bA g H w row vs):bM g H w row.cells vs:=by
 cases row<;>simp only [bA,PV.cells] at h ⊢ <;> first
  | exact h
  | (obtain ⟨ho,v,rfl,hv⟩:=h;simp only [bM];exact ⟨v,[],rfl,ho,hv,rfl⟩)
theorem AY {p:PV} {v:Value} (h:VR g H w p v) (ho:jK p.cells=true):bM g H w p.cells v.cells.toList∧bA g H w p v.cells.toList:=by
 cases p with
 | agg cs =>simp only [VR] at h;obtain ⟨vs,rfl,h⟩:=h;simp only [PV.cells,Value.cells,bA];exact ⟨h,h⟩
 | tup ps=>simp [PV.cells,jK,PV.one] at ho
 | fn f x y =>have h':=h;simp only [VR] at h;obtain ⟨az,bs,rfl,_⟩:=h;simp only [PV.cells,Value.cells,bA,bM];exact ⟨⟨_,_,rfl,rfl,h',rfl⟩,rfl,_,rfl,h'⟩
 | data rows =>have h':=h;simp only [VR,RC] at h;obtain ⟨k,l,c,e,_⟩:=h;simp only [kJ,and_true] at e;subst e;simp only [PV.cells,Value.cells,bA,bM];exact ⟨⟨_,_,rfl,rfl,h',rfl⟩,rfl,_,rfl,h'⟩
 | own id lo len ext cap =>have h':=h;simp only [VR] at h;obtain ⟨hb,ad,c,_,_,rfl,_⟩:=h;simp only [PV.cells,Value.cells,bA,bM];exact ⟨⟨_,_,rfl,rfl,h',rfl⟩,rfl,_,rfl,h'⟩
 | sub id ext i off n e =>have h':=h;simp only [VR] at h;obtain ⟨ad,_,rfl,_⟩:=h;simp only [PV.cells,Value.cells,bA,bM];exact ⟨⟨_,_,rfl,rfl,h',rfl⟩,rfl,_,rfl,h'⟩
 | ptr id ext i off =>have h':=h;simp only [VR] at h;obtain ⟨hb,ad,_,_,rfl,_⟩:=h;simp only [PV.cells,Value.cells,bA,bM];exact ⟨⟨_,_,rfl,rfl,h',rfl⟩,rfl,_,rfl,h'⟩
 | eptr rows i off =>have h':=h;simp only [VR] at h;obtain ⟨b,oo,esz,rfl,_⟩:=h;simp only [PV.cells,Value.cells,bA,bM];exact ⟨⟨_,_,rfl,rfl,h',rfl⟩,rfl,_,rfl,h'⟩
 | emp =>have h':=h;simp only [VR] at h;obtain ⟨k,rfl⟩:=h;simp only [PV.cells,Value.cells,bA,bM];exact ⟨⟨_,_,rfl,rfl,h',rfl⟩,rfl,_,rfl,h'⟩
 | mt b =>have h':=h;simp only [VR] at h;obtain ⟨k,c,rfl,_⟩:=h;simp only [PV.cells,Value.cells,bA,bM];exact ⟨⟨_,_,rfl,rfl,h',rfl⟩,rfl,_,rfl,h'⟩
 | int k n =>have h':=h;simp only [VR] at h;obtain ⟨rfl,_⟩:=h;simp only [PV.cells,Value.cells,bA,bM];exact ⟨⟨_,_,rfl,rfl,h',rfl⟩,rfl,_,rfl,h'⟩
 | bool b | nilp | nils | nilf =>have h':=h;simp only [VR] at h;subst h;simp only [PV.cells,Value.cells,bA,bM];exact ⟨⟨_,_,rfl,rfl,h',rfl⟩,rfl,_,rfl,h'⟩
theorem Jy:∀ (l:List PV) (vs:List Value),bM g H w l vs→∀ v∈vs,v.oneCell'=true
 | [],vs,h=>by simp only [bM] at h;subst h;simp
 | x::r,vs,h=>by
  simp only [bM] at h;obtain ⟨v,vr,rfl,o,h1,h2⟩:=h;intro u hu;rcases qAo.1 hu with rfl | hu
  ·have hc:=(AY (p:=x) h1 (by cases x<;>simp [PV.cells,jK,PV.one] at o ⊢)).2
   cases x<;>simp [PV.one] at o<;>simp only [VR] at h1<;>first
    | (subst h1;rfl)
    | (obtain ⟨rfl,_⟩:=h1;rfl)
    | (obtain ⟨_,_,_,_,rfl,_⟩:=h1;rfl)
    | (obtain ⟨_,_,_,rfl,_⟩:=h1;rfl)
    | (obtain ⟨_,rfl⟩:=h1;rfl)
    | (obtain ⟨_,_,rfl,_⟩:=h1;rfl)
    | (obtain ⟨_,_,_,_,_,rfl,_⟩:=h1;rfl)
    | (simp only [RC] at h1;obtain ⟨_,_,_,e,_⟩:=h1;simp only [kJ,and_true] at e;subst e;rfl)
  ·exact Jy r vr h2 u hu
theorem Xl {l1 l2:List PV} {v1 v2:List Value} (h1:bM g H w l1 v1) (h2:bM g H w l2 v2):bM g H w (l1++l2) (v1++v2):=by
 induction l1 generalizing v1 with
 | nil=>simp only [bM] at h1;subst h1;simpa using h2
 | cons x r ih =>simp only [bM] at h1;obtain ⟨v,vr,rfl,o,h,h'⟩:=h1;simp only [wO,bM];exact ⟨v,vr++v2,rfl,o,h,ih h'⟩
theorem NA:∀ (n:Nat) (l:List PV) (vs:List Value),bM g H w l vs→bM g H w (l.drop n) (vs.drop n)
 | 0,l,vs,h=>by simpa using h
 | n+1,[],vs,h=>by simp only [bM] at h;subst h;simp [bM]
 | n+1,x::r,vs,h=>by simp only [bM] at h;obtain ⟨v,vr,rfl,o,h,h'⟩:=h;simpa using NA n r vr h'
theorem NB:∀ (n:Nat) (l:List PV) (vs:List Value),bM g H w l vs→bM g H w (l.take n) (vs.take n)
 | 0,l,vs,h=>by simp [bM]
 | n+1,[],vs,h=>by simp only [bM] at h;subst h;simp [bM]
 | n+1,x::r,vs,h=>by simp only [bM] at h;obtain ⟨v,vr,rfl,o,h,h'⟩:=h;simp only [List.take_succ_cons,bM];exact ⟨v,vr.take n,rfl,o,h,NB n r vr h'⟩
theorem yuo {agg:Bool} {sz off:Nat} {row p:PV} {vs:List Value} (hrow:bM g H w row.cells vs) (h:ygw agg sz row off=some p) :
  (agg=true∧off+sz≤vs.length∧VR g H w p (.agg ((vs.drop off).take sz).toArray))∨(agg=false∧∃ v,vs[off]?=some v∧VR g H w p v):=by
 unfold ygw at h;have hl:=rG _ _ hrow
 cases agg
 ·simp only [gE,if_false] at h;obtain ⟨v,h1,_,h2⟩:=Jv _ _ _ _ hrow h;exact .inr ⟨rfl,v,h1,h2⟩
 ·simp only [if_true] at h;split at h
  ·rename_i hle
   cases h
   refine .inl ⟨rfl,by omega,?_⟩;simp only [VR];exact ⟨_,rfl,NB _ _ _ (NA _ _ _ hrow)⟩
  ·cases h
theorem Jz {t:TypeId} {agg:Bool} (h:ykJ P t=some agg):(isAgg t).run P w=.ok agg w:=by
 unfold ykJ at h;unfold isAgg;split at h<;>first
  | (rename_i hu;cases h;simp [run_underlying hu];done)
  | (rename_i d hd1 hd2 hu;cases h;simp only [Sem.run_bind,run_underlying hu,Result.andThen_ok];cases d<;>first | rfl | (exact absurd rfl (hd1 _)) | (exact absurd rfl (hd2 _ _));done)
  | cases h
theorem ko {b o off sz:Nat} {vs:List Value} (h:At w b o vs):At w b (o+off) ((vs.drop off).take sz):=by
 intro j u hj;rw [qU] at hj;split at hj
 ·rw [sM] at hj;have:=h (off+j) u hj
  rwa [show o+off+j=o+(off+j) from by omega]
 ·cases hj
theorem pP (b o n:Nat):(⟨b,o,none⟩:Addr).add n=⟨b,o+n,none⟩:=by unfold Addr.add;split<;>simp_all
theorem kp {b o:Nat} {cs:List Value} (h:At w b o cs):(loadCells ⟨b,o,none⟩ cs.length).run P w=.ok cs.toArray w:=
 run_loadCells_list w _ cs (fun j v hj=>by rw [pP];exact h j v hj)
theorem NC {t:TypeId} {agg:Bool} {i:TypeInfo} {b o off:Nat} {row p:PV} {vs:List Value} (hrow:bM g H w row.cells vs) (hat:At w b o vs) (h:ygw agg i.size row off=some p)
  (ha:ykJ P t=some agg) (hi:P.info? t=some i):∃ v,(loadVar t ⟨b,o+off,none⟩).run P w=.ok v w∧VR g H w p v:=by
 rcases yuo hrow h with ⟨rfl,hl,hv⟩|⟨rfl,v,hv,hvr⟩
 ·refine ⟨_,?_,hv⟩;have hlen:((vs.drop off).take i.size).length=i.size:=by rw [kW,kD];omega
  have:=kp (P:=P) (ko (off:=off) (sz:=i.size) hat);rw [hlen] at this;simp [loadVar,Jz ha,sizeOf,typeInfo,hi,this]
 ·refine ⟨v,?_,hvr⟩;have hc:=hat off v hv;simp [loadVar,Jz ha,hc]
theorem kr (hr:Rel E nt g F H a.tmps w) {t:TypeId} {agg:Bool} {i:TypeInfo} {x:Operand} {x':Opd} (ho:o.op=.load t x) (ha:ykJ P t=some agg) (hi:P.info? t=some i) (hx:opd x=some x') {call} (h:yas E call F H (.load agg i.size x')=some out) :
  bS E nt g F H a.tmps w out ((execOp a.eval o).run P w):=by
 have fin:∀ {b o1 off:Nat} {row p:PV} {vs:List Value},a.eval x=.pointer (some ⟨b,o1+off,none⟩)→bM g H w row.cells vs→At w b o1 vs→ygw agg i.size row off=some p→out=⟨some (.v p),none,H⟩ →
   bS E nt g F H a.tmps w out ((execOp a.eval o).run P w):=by
  intro b o1 off row p vs he hrow hat hp hout;subst hout;obtain ⟨v,h1,h2⟩:=NC (P:=P) hrow hat hp ha hi;refine bS.val hr ?_ h2;simp [execOp,ho,Instr.loadAt,he,Instr.sureAddr,h1]
 simp only [yas] at h;split at h
 ·rename_i s off hev;have hval:=mN hr hx hev;obtain ⟨b,hb,he⟩:=hval;split at h
  ·rename_i row hrow;split at h
   ·rename_i p hp;have hf:=hr.frame s _ hrow;obtain ⟨b',hb',_,_,cur,T,hh,hrr⟩:=hf;rw [hb] at hb';cases hb';refine fin (o1:=0) (by simpa using he) (zP hrr) (At.of_cells (fr:=(0,0)) hh (by rw [qX,yV])) hp (cW h)
   ·cases h
  ·cases h
 ·rename_i rows k off hev;have hval:=mN hr hx hev;simp only [gR,VR] at hval;obtain ⟨b,o1,esz,he,hI,hz,hk,hrows⟩:=hval;split at h
  ·rename_i row hrow;split at h
   ·rename_i p hp;obtain ⟨vs,h1,h2,h3⟩:=oR rows esz b o1 k row hrows hrow;exact fin he (zP (Jq row vs h2)) h3 hp (cW h)
   ·cases h
  ·cases h
 ·rename_i id ext k off hev;have hval:=mN hr hx hev;simp only [gR,VR] at hval;obtain ⟨hb,ad,e1,hle,he,hcond⟩:=hval;split at h
  ·rename_i hb' e2;rw [e1] at e2;cases e2;split at h
   ·rename_i hext;obtain ⟨b,o1,hρ,hk,hadd⟩:=hcond hext;subst hadd;split at h
    ·rename_i row hrow;split at h
     ·rename_i p hp;obtain ⟨b',o',hblk⟩:=hr.heap id hb e1;have:=hblk.at_;rw [hρ] at this;cases this;obtain ⟨vs,h1,h2,h3⟩:=vJ hb.rows hb.esz b o1 k row hblk.rows hrow;exact fin he (zP h2) h3 hp (cW h)
     ·cases h
    ·cases h
   ·cases h
  ·cases h
 ·cases h
theorem Xm {t:TypeId} {agg:Bool} {i:TypeInfo} {off:Nat} {row p:PV} {vs:List Value} (hrow:bM g H w row.cells vs) (h:ygw agg i.size row off=some p)
  (ha:ykJ P t=some agg) (hi:P.info? t=some i):∃ v,(part t vs.toArray off).run P w=.ok v w∧VR g H w p v:=by
 rcases yuo hrow h with ⟨rfl,hl,hv⟩|⟨rfl,v,hv,hvr⟩
 ·refine ⟨_,?_,hv⟩;have e:vs.toArray.extract off (off+i.size)=((vs.drop off).take i.size).toArray:=by
   rw [← qW];simp [List.extract_eq_take_drop]
  simp [part,Jz ha,sizeOf,typeInfo,hi]
 ·refine ⟨v,?_,hvr⟩;simp [part,Jz ha,hv]
theorem kt (hr:Rel E nt g F H a.tmps w) {t:TypeId} {f:Nat} {agg:Bool} {fs:Array Field} {fl:Field} {i:TypeInfo} {x:Operand} {x':Opd} (ho:o.op=.field t x f) (hu:P.underlying t=some (.struct fs)) (hf:fs[f]?=some fl)
  (ha:ykJ P fl.type=some agg) (hi:P.info? fl.type=some i) (hx:opd x=some x') {call} (h:yas E call F H (.fld agg i.size fl.offset x')=some out) :
  bS E nt g F H a.tmps w out ((execOp a.eval o).run P w):=by
 simp only [yas] at h;split at h
 ·rename_i cs hp;split at h
  ·rename_i p hpp;have h1:=cS hr hx hp;simp only [VR] at h1;obtain ⟨vs,e,hvs⟩:=h1;obtain ⟨v,h2,h3⟩:=Xm (P:=P) (row:=.agg cs) (by simpa [PV.cells] using hvs) hpp ha hi;rw [cW h];refine bS.val hr ?_ h3;simp [execOp,ho,Instr.field,run_underlying hu,hf,e,asAgg,h2]
  ·cases h
 ·cases h
theorem ku (hr:Rel E nt g F H a.tmps w) {t e:TypeId} {n:Nat} {agg:Bool} {j:TypeInfo} {x y:Operand} {x' y':Opd} (ho:o.op=.index t x y) (hu:P.underlying t=some (.array n e))
  (ha:ykJ P e=some agg) (hi:P.info? e=some j) (hx:opd x=some x') (hy:opd y=some y') {call} (h:yas E call F H (.idx agg n j.size x' y')=some out) :
  bS E nt g F H a.tmps w out ((execOp a.eval o).run P w):=by
 simp only [yas] at h;split at h
 ·rename_i cs m hp hm;split at h
  ·rename_i hbd;split at h
   ·rename_i p hpp;have h1:=cS hr hx hp;simp only [VR] at h1;obtain ⟨vs,e1,hvs⟩:=h1;obtain ⟨k,e2,_⟩:=oU hr hy hm;obtain ⟨v,h2,h3⟩:=Xm (P:=P) (row:=.agg cs) (by simpa [PV.cells] using hvs) hpp ha hi;rw [cW h];refine bS.val hr ?_ h3;simp [execOp,ho,Instr.index,asIntOf,run_underlying hu,e1,e2,hbd,sizeOf,typeInfo,hi,h2]
   ·cases h
  ·cases h
 ·cases h
theorem kv (hr:Rel E nt g F H a.tmps w) {s:TypeId} {f sz:Nat} {fs:Array Field} {fl:Field} {x:Operand} {x':Opd} (ho:o.op=.fieldAddr s x f) (hu:P.underlying s=some (.struct fs)) (hf:fs[f]?=some fl)
  (hs:ydo P fl.type=some sz) (hx:opd x=some x') {call} (h:yas E call F H (.fad fl.offset x')=some out) :
  bS E nt g F H a.tmps w out ((execOp a.eval o).run P w):=by
 have hrun':∀ (ad:Addr),a.eval x=.pointer (some ad)→(execOp a.eval o).run P w=.ok (.value (.pointer (some (ad.add fl.offset)))) w:=by
  intro ad he;unfold ydo at hs;split at hs
  ·rename_i i hi;split at hs
   ·rename_i hpos;have:¬i.size=0:=by omega
    simp [execOp,ho,Instr.fieldAt,run_underlying hu,hf,he,Instr.sureAddr,fieldPlace,sizeOf,typeInfo,hi,this]
   ·cases hs
  ·cases hs
 have hrun:∀ (b o1:Nat),a.eval x=.pointer (some ⟨b,o1,none⟩)→(execOp a.eval o).run P w=.ok (.value (.pointer (some ⟨b,o1+fl.offset,none⟩))) w:=by intro b o1 he;rw [hrun' _ he,pP]
 simp only [yas] at h;split at h
 ·rename_i s' off hev;obtain ⟨b,hb,he⟩:=mN hr hx hev
  cases h
  exact ⟨_,w,g,.inl (hrun b off he),Nx.refl g H w,hr,b,hb,rfl⟩
 ·rename_i id e i oo hev;have hval:=mN hr hx hev;simp only [gR,VR] at hval;rw [cW h];obtain ⟨hb,ad,e1,hle,he,hcond⟩:=hval
  by_cases hext:hb.rows.length=e
  ·obtain ⟨b,o1,hρ,hk,hadd⟩:=hcond hext;subst hadd;refine bS.val hr (hrun b _ he) ?_;simp only [VR];exact ⟨hb,_,e1,hle,rfl,fun _=>⟨b,o1,hρ,hk,by rw [uW]⟩⟩
  ·refine bS.val hr (hrun' _ he) ?_;simp only [VR];exact ⟨hb,_,e1,hle,rfl,fun he=>absurd he hext⟩
 ·rename_i rows i oo hev;have hval:=mN hr hx hev;simp only [gR,VR] at hval;rw [cW h];obtain ⟨b,o1,esz,he,hI,hz,hk,hrows⟩:=hval;refine bS.val hr (hrun b _ he) ?_;simp only [VR];exact ⟨b,o1,esz,by rw [uW],hI,hz,hk,hrows⟩
 ·cases h
theorem kw (hr:Rel E nt g F H a.tmps w) {x:Operand} {x':Opd} (ho:o.op=.nilCheck x) (hx:opd x=some x') {call} (h:yas E call F H (.nilchk x')=some out) :
  bS E nt g F H a.tmps w out ((execOp a.eval o).run P w):=by
 simp only [yas] at h;split at h
 ·rename_i s' off hev;obtain ⟨b,hb,he⟩:=mN hr hx hev
  cases h
  exact ⟨_,w,g,.inl (by simp [execOp,ho,he]),Nx.refl g H w,hr,b,hb,rfl⟩
 ·rename_i hev;have hval:=mN hr hx hev;simp only [gR] at hval;have hv:=hval;simp only [VR] at hval;obtain ⟨hb,ad,e1,hle,he,hcond⟩:=hval;rw [cW h];exact bS.val hr (by simp [execOp,ho,he]) (he ▸ hv)
 ·rename_i hev;have hval:=mN hr hx hev;simp only [gR] at hval;have hv:=hval;simp only [VR] at hval;obtain ⟨b,o1,esz,he,_⟩:=hval;rw [cW h];exact bS.val hr (by simp [execOp,ho,he]) (he ▸ hv)
 ·rename_i hev;have hval:=mN hr hx hev;simp only [gR] at hval;have hv:=hval;simp only [VR] at hval;obtain ⟨az,bs,he,_⟩:=hval;rw [cW h];exact bS.val hr (by simp [execOp,ho,he,Gh.tr]) (he ▸ hv)
 ·cases h
theorem mO {t:TypeId} {sz:Nat} (h:ydo P t=some sz):(sizeOf t).run P w=.ok sz w∧0<sz∧∃ i,P.info? t=some i∧i.size=sz:=by
 unfold ydo at h;split at h
 ·rename_i i hi;split at h
  ·cases h
   exact ⟨by simp [sizeOf,typeInfo,hi],by assumption,i,hi,rfl⟩
  ·cases h
 ·cases h
theorem Gk {I:Nat→Prop} {x:PV} {vs:List Value} (h:RC I w x vs):vs.length=x.cells.length:=by
 cases x<;>simp only [RC,PV.cells] at h ⊢ <;> first
  | (subst h;rfl)
  | (obtain ⟨rfl,_⟩:=h;rfl)
  | (obtain ⟨_,_,_,rfl,_⟩:=h;rfl)
  | exact h.elim
  | skip
 rename_i cs;induction cs generalizing vs with
 | nil=>simp only [ya5] at h;subst h;rfl
 | cons x r ih =>simp only [ya5] at h;obtain ⟨v,vr,rfl,_,_,h2⟩:=h;simp [ih h2]
theorem kx (hr:Rel E nt g F H a.tmps w) {t e:TypeId} {sz:Nat} {x y:Operand} {x' y':Opd} (ho:o.op=.indexAddr t x y) (hu:P.underlying t=some (.slice e)) (hs:ydo P e=some sz) (hx:opd x=some x') (hy:opd y=some y') {call} (h:yas E call F H (.iad sz x' y')=some out) :
  bS E nt g F H a.tmps w out ((execOp a.eval o).run P w):=by
 obtain ⟨hsz,hpos,_⟩:=mO (P:=P) (w:=w) hs;have hrun:∀ (ad:Addr) (l c:Nat) (n:Int),a.eval x=.slice (some ad) l c→(∃ k,a.eval y=.int k n∧inK k n)→0≤n→n<l→(execOp a.eval o).run P w=.ok (.value (.pointer (some (ad.add (n.toNat*sz))))) w:=by
  intro ad l c n he hn h0 h1;obtain ⟨k,hn,_⟩:=hn;simp [execOp,ho,Instr.indexAt,asIntOf,hn,run_underlying hu,he,h0,h1,hsz]
 simp only [yas] at h;split at h
 ·rename_i rows n hp hn;split at h
  ·rename_i hbd;split at h
   ·rename_i row hrow;split at h
    ·rename_i hcl;rw [cW h];have h1:=cS hr hx hp;simp only [VR,RC] at h1;obtain ⟨k,l,c,e1,hl,hc,hm,hrest⟩:=h1;simp only [kJ,and_true] at e1;have hne:rows≠[]:=by intro e;subst e;simp at hrow
     rcases hrest with hrest|⟨b,o1,esz,rfl,hI,hz,hrows⟩
     ·exact absurd hrest hne
     ·obtain ⟨vs,hv1,hv2,hv3⟩:=oR rows esz b o1 n.toNat row hrows hrow;have:esz=sz:=by rw [← hv1,Gk hv2,hcl]
      subst this;refine bS.val hr (hrun _ _ _ n e1 (oU hr hy hn) hbd.1 (by omega)) ?_;simp only [VR];refine ⟨b,o1+n.toNat*esz,esz,by rw [pP];simp,hI,hz,by simp,?_⟩;simp only [dN];exact ⟨⟨vs,hv1,hv2,hv3⟩,trivial⟩
    ·cases h
   ·cases h
  ·cases h
 ·rename_i id lo len ext cap n hp hn;split at h
  ·rename_i hbd;split at h
   ·rename_i hb hhb;split at h
    ·rename_i hz;rw [cW h];have h1:=cS hr hx hp;simp only [VR] at h1;obtain ⟨hb',ad,c,e1,hle,e2,hc,hm,hcc,hcond⟩:=h1;rw [hhb] at e1;cases e1;refine bS.val hr (hrun _ _ _ n e2 (oU hr hy hn) hbd.1 hbd.2) ?_;simp only [VR];refine ⟨hb,_,hhb,hle,rfl,fun hext=>?_⟩;obtain ⟨b,o1,hρ,hle2,had,_⟩:=hcond hext;have hc0:c≠0:=by omega
     refine ⟨b,o1,hρ,by omega,?_⟩;rw [had hc0,pP,hz];congr 1;rw [dC];omega
    ·cases h
   ·cases h
  ·cases h
 ·rename_i id ext r off m e n hp hn;split at h
  ·rename_i hbd;obtain ⟨h1,h2,h3⟩:=hbd;subst h3;rw [cW h];have hv:=cS hr hx hp;simp only [VR] at hv;obtain ⟨ad,⟨hb,ad',e1,hle,e2,hcond⟩,e3,_⟩:=hv
   cases e2
   refine bS.val hr (hrun _ _ _ n e3 (oU hr hy hn) h1 h2) ?_;simp only [VR];refine ⟨hb,_,e1,hle,rfl,fun hext=>?_⟩;obtain ⟨b,o1,hρ,hk,hadd⟩:=hcond hext;exact ⟨b,o1,hρ,hk,by rw [hadd,pP,uW]⟩
  ·cases h
 ·cases h
theorem ky (hr:Rel E nt g F H a.tmps w) {t e:TypeId} {m sz:Nat} {x y:Operand} {x' y':Opd} (ho:o.op=.indexAddr t x y) (hu:P.underlying t=some (.array m e)) (hs:ydo P e=some sz) (hx:opd x=some x') (hy:opd y=some y') {call} (h:yas E call F H (.iadA m sz x' y')=some out) :
  bS E nt g F H a.tmps w out ((execOp a.eval o).run P w):=by
 obtain ⟨hsz,hpos,_⟩:=mO (P:=P) (w:=w) hs;have hrun:∀ (ad:Addr) (n:Int),a.eval x=.pointer (some ad)→(∃ k,a.eval y=.int k n∧inK k n)→0≤n→n<m→(execOp a.eval o).run P w=.ok (.value (.pointer (some (ad.add (n.toNat*sz))))) w:=by
  intro ad n he hn h0 h1;obtain ⟨k,hn,_⟩:=hn;simp [execOp,ho,Instr.indexAt,asIntOf,hn,run_underlying hu,he,Instr.sureAddr,h0,h1,hsz]
 simp only [yas] at h;split at h
 ·rename_i s' off n hev hn;obtain ⟨b,hb,he⟩:=mN hr hx hev;split at h
  ·rename_i hbd
   cases h
   exact ⟨_,w,g,.inl (hrun _ n he (oU hr hy hn) hbd.1 hbd.2),Nx.refl g H w,hr,b,hb,by rw [pP]⟩
  ·cases h
 ·rename_i id ex i oo n hev hn;have hval:=mN hr hx hev;simp only [gR,VR] at hval;split at h
  ·rename_i hbd;rw [cW h];obtain ⟨hb,ad,e1,hle,he,hcond⟩:=hval;refine bS.val hr (hrun _ n he (oU hr hy hn) hbd.1 hbd.2) ?_;simp only [VR];refine ⟨hb,_,e1,hle,rfl,fun hext=>?_⟩;obtain ⟨b,o1,hρ,hk,hadd⟩:=hcond hext;exact ⟨b,o1,hρ,hk,by rw [hadd,pP,uW]⟩
  ·cases h
 ·rename_i rows i oo n hev hn;have hval:=mN hr hx hev;simp only [gR,VR] at hval;split at h
  ·rename_i hbd;rw [cW h];obtain ⟨b,o1,esz,he,hI,hz,hk,hrows⟩:=hval;refine bS.val hr (hrun _ n he (oU hr hy hn) hbd.1 hbd.2) ?_;simp only [VR];exact ⟨b,o1,esz,by rw [pP,uW],hI,hz,hk,hrows⟩
  ·cases h
 ·cases h
theorem Xn (off:Nat):∀ (vs:List Value) (j:Nat) (cs:Array Value),off+j+vs.length≤cs.size →
  ((vs.zipIdx j).foldl (fun (cs:Array Value) (x:Value×Nat)=>cs.setIfInBounds (off+x.2) x.1) cs).toList=cs.toList.take (off+j)++(vs++cs.toList.drop (off+j+vs.length))
 | [],j,cs,h=>by simp
 | v::r,j,cs,h=>by
  simp only [List.zipIdx_cons,List.foldl_cons];simp only [kI] at h;rw [Xn off r (j+1) _ (by simp;omega)];simp only [Array.toList_setIfInBounds];have hlt:off+j<cs.toList.length:=by simp;omega
  rw [List.drop_set_of_lt (by omega)];rw [show off+(j+1)=(off+j)+1 from by omega,List.take_succ_eq_append_getElem (by simpa using hlt)];simp only [List.getElem_set_self,kI];rw [List.take_set_of_le (bW _)];simp only [lX,List.singleton_append];congr 2;rw [show off+j+1+r.length=off+j+(r.length+1) from by omega];simp
theorem ND (place:Nat→Option (Nat×Nat)) (cells:Array Value) (i off size:Nat) (v:Value) (rest:List (Nat×Value)) (hp:place i=some (off,size)) (hs:v.cells.size=size) (hl:off+size≤cells.size) :
  Instr.fill place cells ((i,v)::rest)=Instr.fill place (cells.toList.take off++(v.cells.toList++cells.toList.drop (off+size))).toArray rest:=by
 rw [Instr.fill,hp];simp only;rw [WN (by simp [hs];omega)];congr 1;apply Array.ext';rw [← Array.foldl_toList,Array.toList_zipIdx];have:=Xn off v.cells.toList 0 cells (by simp;omega);simp only [uY] at this;rw [this];simp [hs]
theorem NE {l x:List PV} {vs us:List Value} {off n:Nat} (h:bM g H w l vs) (hx:bM g H w x us):bM g H w (l.take off++(x++l.drop n)) (vs.take off++(us++vs.drop n)):=
 Xl (NB _ _ _ h) (Xl hx (NA _ _ _ h))
theorem Xo:∀ (l:List PV) (vs:List Value),bM g H w l vs→jK l=true
 | [],vs,_=>rfl
 | x::r,vs,h=>by simp only [bM] at h;obtain ⟨v,vr,rfl,o,h1,h2⟩:=h;simp [jK,o,Xo r vr h2]
theorem Xp (hr:Rel E nt g F H a.tmps w) (fs:Array Field) (places:Array (Nat×Nat)) (hpl:∀ (i:Nat) (f:Field) (j:TypeInfo),fs[i]?=some f→P.info? f.type=some j→places[i]?=some (f.offset,j.size)) :
  ∀ (parts:List (Nat×Operand)) (ps:List (Nat×Nat×Opd)) (cs cs':List PV) (vs:List Value),yvQ P fs parts=some ps→bM g H w cs vs→ylv E F cs ps=some cs' →
  ∃ us,Instr.fill (places[·]?) vs.toArray (parts.map fun (i,x)=>(i,a.eval x))=some us∧bM g H w cs' us.toList
 | [],ps,cs,cs',vs,h,hv,hf=>by simp [yvQ] at h;subst h;simp [ylv] at hf;subst hf;exact ⟨vs.toArray,by simp [Instr.fill],by simpa using hv⟩
 | (i,x)::r,ps,cs,cs',vs,h,hv,hf=>by
  simp only [yvQ] at h;split at h
  ·rename_i f x' l h1 h2 h3;split at h
   ·rename_i j hj
    cases h
    simp only [ylv] at hf;split at hf
    ·rename_i p hp;split at hf
     ·rename_i hc;obtain ⟨hc1,hc2,hc3⟩:=hc;have hvp:=cS hr h2 hp;have hcells:=(AY hvp hc3).1;have hl1:=rG _ _ hcells;have hl2:=rG _ _ hv;have hnew:=NE (off:=f.offset) (n:=f.offset+j.size) hv hcells;obtain ⟨us,hu1,hu2⟩:=Xp hr fs places hpl r l _ cs' _ h3 hnew hf;refine ⟨us,?_,hu2⟩;rw [sO,ND _ _ _ _ _ _ _ (hpl i f j h1 hj) (by simpa [hc1] using hl1) (by simp;omega)];simpa using hu1
     ·cases hf
    ·cases hf
   ·cases h
  ·cases h
theorem Xq (hr:Rel E nt g F H a.tmps w) (sz:Nat) :
  ∀ (parts:List (Nat×Operand)) (ps:List (Nat×Nat×Opd)) (cs cs':List PV) (vs:List Value),yvR sz parts=some ps→bM g H w cs vs→ylv E F cs ps=some cs' →
  ∃ us,Instr.fill (fun i=>some (i*sz,sz)) vs.toArray (parts.map fun (i,x)=>(i,a.eval x))=some us∧bM g H w cs' us.toList
 | [],ps,cs,cs',vs,h,hv,hf=>by simp [yvR] at h;subst h;simp [ylv] at hf;subst hf;exact ⟨vs.toArray,by simp [Instr.fill],by simpa using hv⟩
 | (i,x)::r,ps,cs,cs',vs,h,hv,hf=>by
  simp only [yvR] at h;split at h
  ·rename_i x' l h2 h3
   cases h
   simp only [ylv] at hf;split at hf
   ·rename_i p hp;split at hf
    ·rename_i hc;obtain ⟨hc1,hc2,hc3⟩:=hc;have hvp:=cS hr h2 hp;have hcells:=(AY hvp hc3).1;have hl1:=rG _ _ hcells;have hl2:=rG _ _ hv;have hnew:=NE (off:=i*sz) (n:=i*sz+sz) hv hcells;obtain ⟨us,hu1,hu2⟩:=Xq hr sz r l _ cs' _ h3 hnew hf;refine ⟨us,?_,hu2⟩;rw [sO,ND _ _ _ _ _ _ _ rfl (by simpa [hc1] using hl1) (by simp;omega)];simpa using hu1
    ·cases hf
   ·cases hf
  ·cases h
theorem JA {t:TypeId} {z:PV} (h:yun P t=some z):∃ i v,P.info? t=some i∧i.zero=some v∧VR g H w z v∧bM g H w z.cells v.cells.toList∧bA g H w z v.cells.toList∧v.cells.size=i.size:=by
 unfold yun at h;split at h
 ·rename_i i hi;split at h
  ·rename_i v hv;split at h
   ·rename_i p hp;split at h
    ·rename_i hl
     cases h
     have hvr:=WW (g:=g) (H:=H) (w:=w) hp;have ho:jK z.cells=true:=by
      unfold yrd at hp;split at hp
      ·split at hp
       ·rename_i l hc
        cases hp
        exact Xo (g:=g) (H:=H) (w:=w) _ _ (Nw _ _ hc)
       ·cases hp
      ·have:=(Js (g:=g) (H:=H) (w:=w) hp).1
       cases z<;>simp [PV.cells,jK,PV.one] at this ⊢
     obtain ⟨h1,h2⟩:=AY hvr ho;exact ⟨i,v,hi,hv,hvr,h1,h2,by have:=rG _ _ h1;simpa [hl] using this⟩
    ·cases h
   ·cases h
  ·cases h
 ·cases h
theorem kz (w:World) (fs:List Field):(∀ f∈fs,∃ j,P.info? f.type=some j)→∃ places:List (Nat×Nat),(fs.mapM fun f=>(do pure (f.offset,← sizeOf f.type):Sem (Nat×Nat))).run P w=.ok places w ∧
  ∀ (i:Nat) (f:Field) (j:TypeInfo),fs[i]?=some f→P.info? f.type=some j→places[i]?=some (f.offset,j.size):=by
 induction fs with
 | nil=>intro _;exact ⟨[],by simp,by simp⟩
 | cons f r ih=>
  intro h;obtain ⟨places,h1,h2⟩:=ih (fun f hf=>h f (gO _ hf));obtain ⟨j,hj⟩:=h f (kC ..);refine ⟨(f.offset,j.size)::places,?_,?_⟩
  ·rw [uV];simp only [Sem.run_bind,sizeOf,typeInfo,run_program,Result.andThen_ok,hj,Sem.run_pure] at h1 ⊢;simp only [h1,Result.andThen_ok]
  ·intro i f' j' hf hj'
   cases i with
   | zero=>simp at hf;subst hf;rw [hj] at hj';cases hj';rfl
   | succ i=>simpa using h2 i f' j' (by simpa using hf) hj'
theorem lc (hr:Rel E nt g F H a.tmps w) {t:TypeId} {parts:Array (Nat×Operand)} {fs:Array Field} {z:PV} {ps:List (Nat×Nat×Opd)} (ho:o.op=.build t parts) (hz:yun P t=some z) (hu:P.underlying t=some (.struct fs))
  (hinfo:fs.toList.all (fun f=>(P.info? f.type).isSome)=true) (hps:yvQ P fs parts.toList=some ps) {call} (h:yas E call F H (.build z.cells ps)=some out) :
  bS E nt g F H a.tmps w out ((execOp a.eval o).run P w):=by
 simp only [yas] at h;split at h
 ·rename_i cs hcs;rw [cW h];obtain ⟨i,v,hi,hv,_,hcells,_,hsz⟩:=JA (P:=P) (g:=g) (H:=H) (w:=w) hz;obtain ⟨places,hp1,hp2⟩:=kz (P:=P) w fs.toList (fun f hf=>by
   have:=yW.1 hinfo f hf;exact wH.1 this)
  obtain ⟨us,h1,h2⟩:=Xp hr fs places.toArray (fun i f j hf hj=>by simpa using hp2 i f j (by simpa using hf) hj) parts.toList ps z.cells cs v.cells.toList hps hcells hcs;refine bS.val hr (v:=.agg us) ?_ (by simp only [VR];exact ⟨us.toList,by simp,h2⟩);have hz0:(zeroValue t).run P w=.ok v w:=by simp [zeroValue,typeInfo,hi,hv]
  have hm:(fs.mapM fun f=>(do pure (f.offset,← sizeOf f.type):Sem (Nat×Nat))).run P w=.ok places.toArray w:=by rw [Array.mapM_eq_mapM_toList];simp only [Sem.run_map];rw [hp1];rfl
  have e1:(parts.map fun (i,x)=>(i,a.eval x)).toList=parts.toList.map fun (i,x)=>(i,a.eval x):=by simp
  have e2:v.cells.toList.toArray=v.cells:=by simp
  simp only [e2] at h1;simp only [execOp,ho,Instr.build,Sem.run_bind,hz0,Result.andThen_ok,run_underlying hu,hm,e1,h1,Sem.run_pure]
 ·cases h
theorem ld (hr:Rel E nt g F H a.tmps w) {t e:TypeId} {n:Nat} {parts:Array (Nat×Operand)} {z:PV} {ps:List (Nat×Nat×Opd)} {i0:TypeInfo} (ho:o.op=.build t parts) (hz:yun P t=some z) (hu:P.underlying t=some (.array n e))
  (hinfo:P.info? e=some i0) (hps:yvR i0.size parts.toList=some ps) {call} (h:yas E call F H (.build z.cells ps)=some out) :
  bS E nt g F H a.tmps w out ((execOp a.eval o).run P w):=by
 simp only [yas] at h;split at h
 ·rename_i cs hcs;rw [cW h];obtain ⟨i,v,hi,hv,_,hcells,_,hsz⟩:=JA (P:=P) (g:=g) (H:=H) (w:=w) hz;obtain ⟨us,h1,h2⟩:=Xq hr i0.size parts.toList ps z.cells cs v.cells.toList hps hcells hcs;refine bS.val hr (v:=.agg us) ?_ (by simp only [VR];exact ⟨us.toList,by simp,h2⟩);have hz0:(zeroValue t).run P w=.ok v w:=by simp [zeroValue,typeInfo,hi,hv]
  have e1:(parts.map fun (i,x)=>(i,a.eval x)).toList=parts.toList.map fun (i,x)=>(i,a.eval x):=by simp
  have e2:v.cells.toList.toArray=v.cells:=by simp
  have e3:(sizeOf e).run P w=.ok i0.size w:=by simp [sizeOf,typeInfo,hinfo]
  simp only [e2] at h1;simp only [execOp,ho,Instr.build,Sem.run_bind,hz0,Result.andThen_ok,run_underlying hu,e3,e1,h1,Sem.run_pure]
 ·cases h
def jC (v:Option Value) (n:Option Int):Prop:=
 match v,n with
 | none,none=>True
 | some v,some n=>∃ k,v=.int k n
 | _,_=>False
theorem NF (hr:Rel E nt g F H a.tmps w) {x:Option Operand} {x':Option Opd} {n:Option Int} (hx:jX x=some x') (h:nS E F x'=some n):jC (x.map a.eval) n:=by
 cases x with
 | none =>simp [jX] at hx;subst hx;simp [nS] at h;subst h;simp [jC]
 | some y=>
  simp only [jX] at hx;split at hx
  ·rename_i y' hy
   cases hx
   simp only [nS,mI] at h;obtain ⟨m,hm,rfl⟩:=h;obtain ⟨k,e,_⟩:=oU hr hy hm;exact ⟨k,e⟩
  ·cases hx
theorem NG {v:Value} {k:IntKind} {n:Int} {y:Nat} {code:BoundsCode} (hv:v=.int k n) (h0:0≤n) (h1:n≤y):(Instr.sliceBound v y code).run P w=.ok n.toNat w:=by subst hv;simp [Instr.sliceBound,asIntOf,h0,h1]
theorem lf {len cap:Nat} {lo hi mx:Option Value} {l h m:Option Int} (hl:jC lo l) (hh:jC hi h) (hm:jC mx m) (hs:(m.isSome&&h.isNone)=false)
  (b0:0≤l.getD 0) (b1:l.getD 0≤h.getD len) (b2:h.getD len≤m.getD cap) (b3:m.getD cap≤cap) :
  (Instr.sliceBounds true len cap lo hi mx).run P w=.ok ((l.getD 0).toNat,(h.getD len).toNat,(m.getD cap).toNat) w:=by
 have L:∀ (y:Nat) (code:BoundsCode) (v:Value),lo=some v→l.getD 0≤y→(Instr.sliceBound v y code).run P w=.ok (l.getD 0).toNat w:=by
  intro y code v e hy;subst e
  cases l with
  | none=>simp [jC] at hl
  | some n=>obtain ⟨k,hk⟩:=hl;exact NG hk b0 hy
 have L0:lo=none→(l.getD 0).toNat=0:=by
  intro e;subst e
  cases l with
  | none=>rfl
  | some n=>simp [jC] at hl
 have Hh:∀ (y:Nat) (code:BoundsCode) (v:Value),hi=some v→h.getD len≤y→(Instr.sliceBound v y code).run P w=.ok (h.getD len).toNat w:=by
  intro y code v e hy;subst e
  cases h with
  | none=>simp [jC] at hh
  | some n=>obtain ⟨k,hk⟩:=hh;exact NG hk (by simp only [wP] at b1 ⊢;omega) hy
 have H0:hi=none→h=none:=by
  intro e;subst e
  cases h with
  | none=>rfl
  | some n=>simp [jC] at hh
 have M:∀ (code:BoundsCode) (v:Value),mx=some v→(Instr.sliceBound v cap code).run P w=.ok (m.getD cap).toNat w:=by
  intro code v e;subst e
  cases m with
  | none=>simp [jC] at hm
  | some n=>obtain ⟨k,hk⟩:=hm;exact NG hk (by simp only [wP] at b2 ⊢;omega) b3
 have M0:mx=none→m=none:=by
  intro e;subst e
  cases m with
  | none=>rfl
  | some n=>simp [jC] at hm
 have M1:∀ v,mx=some v→m.isSome=true:=by
  intro v e;subst e
  cases m with
  | none=>simp [jC] at hm
  | some n=>rfl
 have c1:((h.getD len).toNat:Int)=h.getD len:=by omega
 have c2:((m.getD cap).toNat:Int)=m.getD cap:=by omega
 cases lo<;>cases hi<;>cases mx
 ·have:=L0 rfl;cases H0 rfl;cases M0 rfl;simp [Instr.sliceBounds,this]
 ·exfalso;rw [H0 rfl,M1 _ rfl] at hs;simp at hs
 ·have:=L0 rfl;cases M0 rfl;simp [Instr.sliceBounds,this,Hh _ _ _ rfl b2]
 ·have:=L0 rfl;simp [Instr.sliceBounds,this,M _ _ rfl,Hh _ _ _ rfl (show h.getD len≤((m.getD cap).toNat:Nat) by omega)]
 ·cases H0 rfl;cases M0 rfl
  simp only [Option.getD_none] at b1;simp [Instr.sliceBounds,L _ _ _ rfl b1]
 ·exfalso;rw [H0 rfl,M1 _ rfl] at hs;simp at hs
 ·cases M0 rfl
  simp [Instr.sliceBounds,Hh _ _ _ rfl b2,L _ _ _ rfl (show l.getD 0≤((h.getD len).toNat:Nat) by omega)]
 ·simp [Instr.sliceBounds,M _ _ rfl,Hh _ _ _ rfl (show h.getD len≤((m.getD cap).toNat:Nat) by omega),L _ _ _ rfl (show l.getD 0≤((h.getD len).toNat:Nat) by omega)]
theorem lh {t e:TypeId} {sz:Nat} (hu:P.underlying t=some (.slice e)) (hs:(sizeOf e).run P w=.ok sz w) {ad:Option Addr} {len cap:Nat} {lo hi mx:Option Value} {l h m:Nat}
  (hb:(Instr.sliceBounds true len cap lo hi mx).run P w=.ok (l,h,m) w):(Instr.sliceAt t (.slice ad len cap) lo hi mx).run P w=.ok (.slice (if m=l then ad else ad.map (·.add (l*sz))) (h-l) (m-l)) w:=by
 simp [Instr.sliceAt,run_underlying hu,Instr.slice,hb,hs]
theorem lj (hr:Rel E nt g F H a.tmps w) {t e:TypeId} {m sz:Nat} {x:Operand} {x':Opd} (ho:o.op=.slice t x none none none) (hu:P.underlying t=some (.array m e)) (hs:ydo P e=some sz) (hx:opd x=some x') {call} (h:yas E call F H (.slcA m sz x')=some out) :
  bS E nt g F H a.tmps w out ((execOp a.eval o).run P w):=by
 obtain ⟨hsz,hpos,_⟩:=mO (P:=P) (w:=w) hs;simp only [yas] at h;split at h
 ·rename_i id ex i oo hev;have hval:=mN hr hx hev;simp only [gR,VR] at hval;split at h
  ·rename_i hbd;rw [cW h];obtain ⟨hb,ad,e1,hle,he,hcond⟩:=hval;have hz:ad.add 0=ad:=by cases ad;rfl
   refine bS.val (v:=.slice (some ad) m m) hr ?_ ?_
   ·have hm:¬m=0:=hbd.1;simp [execOp,ho,Instr.sliceAt,run_underlying hu,he,Instr.sureAddr,Instr.sliceBounds,hsz,hz]
   ·simp only [VR];exact ⟨ad,⟨hb,ad,e1,hle,rfl,hcond⟩,rfl,hbd.2⟩
  ·cases h
 ·cases h
theorem lk (hr:Rel E nt g F H a.tmps w) {t e:TypeId} {sz:Nat} {x:Operand} {lo hi mx:Option Operand} {x':Opd} {lo' hi' mx':Option Opd} (ho:o.op=.slice t x lo hi mx) (hu:P.underlying t=some (.slice e)) (hs:ydo P e=some sz)
  (hx:opd x=some x') (hlo:jX lo=some lo') (hhi:jX hi=some hi') (hmx:jX mx=some mx') {call} (h:yas E call F H (.slc sz x' lo' hi' mx')=some out) :
  bS E nt g F H a.tmps w out ((execOp a.eval o).run P w):=by
 obtain ⟨hsz,hpos,_⟩:=mO (P:=P) (w:=w) hs;simp only [yas] at h;split at h
 ·rename_i p l hh m hp hl hhh hm;split at h
  ·cases h
  ·rename_i hsome;have hsome:(m.isSome&&hh.isNone)=false:=by revert hsome;cases m<;>cases hh<;>simp
   split at h
   ·rename_i r hrr;rw [cW h];have hv:=cS hr hx hp;have ol:=NF hr hlo hl;have oh:=NF hr hhi hhh;have om:=NF hr hmx hm;have fin:∀ {ad:Option Addr} {len cap:Nat},a.eval x=.slice ad len cap→0≤l.getD 0→l.getD 0≤hh.getD len→hh.getD len≤m.getD cap→m.getD cap≤cap →
      VR g H w r (.slice (if (m.getD cap).toNat=(l.getD 0).toNat then ad else ad.map (·.add ((l.getD 0).toNat*sz))) ((hh.getD len).toNat-(l.getD 0).toNat) ((m.getD cap).toNat-(l.getD 0).toNat)) →
      bS E nt g F H a.tmps w ⟨some (.v r),none,H⟩ ((execOp a.eval o).run P w):=by
     intro ad len cap he b0 b1 b2 b3 hvr;refine bS.val hr ?_ hvr;have:=lh (P:=P) (w:=w) hu hsz (ad:=ad) (lf ol oh om hsome b0 b1 b2 b3);simp [execOp,ho,he,this]
    unfold yix at hrr;split at hrr
    ·split at hrr
     ·rename_i hz
      cases hrr
      simp only [VR] at hv;have h1:hh.getD (0:Nat)=0:=hz.2.1;have h2:m.getD (0:Nat)=0:=hz.2.2;refine fin hv (by omega) (by omega) (by omega) (by omega) ?_;rw [h1,h2,hz.1];simp [VR]
     ·cases hrr
    ·split at hrr
     ·rename_i hz
      cases hrr
      simp only [VR] at hv;obtain ⟨ad,hv⟩:=hv;have h1:hh.getD (0:Nat)=0:=hz.2.1;have h2:m.getD (0:Nat)=0:=hz.2.2;refine fin hv (by omega) (by omega) (by omega) (by omega) ?_;rw [h1,h2,hz.1];simp [VR]
     ·cases hrr
    ·rename_i rows;simp only [VR,RC] at hv;obtain ⟨ad,len,cap,e1,hlen,hc,hmx',hrest⟩:=hv;simp only [kJ,and_true] at e1;subst hlen;have part:∀ (l0 h0 m0:Nat),l0≤h0→h0≤m0→h0≤rows.length→m0≤cap→(l0=0∨hO sz rows=true) →
       VR g H w (.data ((rows.take h0).drop l0)) (.slice (if m0=l0 then ad else ad.map (·.add (l0*sz))) (h0-l0) (m0-l0)):=by
      intro l0 h0 m0 k1 k2 k3 k4 k5;simp only [VR,RC];refine ⟨_,_,_,rfl,by simp;omega,by omega,by omega,?_⟩;rcases hrest with hrest | ⟨b,o1,esz,rfl,hI,hz,hrows⟩
      ·subst hrest;left;simp
      ·by_cases hemp:(rows.take h0).drop l0=[]
       ·exact .inl hemp
       ·have hne:rows≠[]:=by intro e;subst e;simp at hemp
        right;have hseg:=Jp hrows l0 (h0-l0);have eseg:(rows.take h0).drop l0=(rows.drop l0).take (h0-l0):=by rw [List.drop_take]
        rw [eseg];have hlt:l0<h0:=by
         rcases qA4 l0 h0 with h1|h1
         ·exact h1
         ·exfalso;apply hemp;apply List.drop_eq_nil_of_le;simp;omega
        by_cases hl0:l0=0
        ·subst hl0;refine ⟨b,o1,esz,?_,hI,hz,by simpa using hseg⟩;split
         ·rfl
         ·simp [pP]
        ·have hz':esz=sz:=by
          have hh1:=k5.resolve_left hl0
          cases hrw:rows with
          | nil=>exact absurd hrw hne
          | cons y ys =>rw [hrw] at hh1 hrows;simp only [hO,beq_iff_eq] at hh1;simp only [dN] at hrows;obtain ⟨⟨vs,q1,q2,_⟩,_⟩:=hrows;rw [← q1,Gk q2,hh1]
         subst hz';refine ⟨b,o1+l0*esz,esz,?_,hI,hz,hseg⟩;rw [WN (by omega)];simp [pP]
     dsimp only at hrr;split at hrr
     ·split at hrr
      ·rename_i hb
       cases hrr
       refine fin e1 hb.1 hb.2.1 (by simp only [Option.getD_none];omega) (Int.le_refl _) ?_;simp only [Option.getD_none] at *
       exact part _ _ _ (by omega) (by omega) (by omega) (by omega) (hb.2.2.2.imp (fun e=>by omega) id)
      ·cases hrr
     ·rename_i mm _;split at hrr
      ·rename_i hb;refine fin e1 hb.1 hb.2.1 (by simp only [wP];omega) (by simp only [wP];omega) ?_;simp only [wP] at *
       split at hrr
       ·rename_i hlm
        cases hrr
        simp only [VR];have z1:(hh.getD (rows.length:Int)).toNat-(l.getD 0).toNat=0:=by omega
        have z2:mm.toNat-(l.getD 0).toNat=0:=by omega
        rw [z1,z2];exact ⟨_,rfl⟩
       ·rename_i hlm
        cases hrr
        exact part _ _ _ (by omega) (by omega) (by omega) (by omega) (hb.2.2.2.2.imp (fun e=>by omega) id)
      ·cases hrr
    ·rename_i id lo0 len ext cap;simp only [VR] at hv;obtain ⟨hb,ad,c,e1,hle,e2,hc,hmx',hcc,hcond⟩:=hv;dsimp only at hrr;rw [e1] at hrr;simp only [beq_eq_false_iff_ne,ne_eq] at hrr
     by_cases hesz:hb.esz=sz
     case neg=>rw [WM hesz] at hrr;cases hrr
     case pos=>
      rw [WN (fun x=>x hesz)] at hrr;have part:∀ (l0 h0 m0:Nat) (cap':Option Nat),l0≤h0→h0≤m0→m0≤c→(∀ c0,cap'=some c0→m0-l0=c0)→(hb.rows.length=ext→lo0+h0≤ext)→(cap'=none→cap=none∧m0=c)→(hb.rows.length=ext→(∃ c0,cap'=some c0)→lo0+m0≤ext) →
        VR g H w (.own id (lo0+l0) (h0-l0) ext cap') (.slice (if m0=l0 then some ad else (some ad).map (·.add (l0*sz))) (h0-l0) (m0-l0)):=by
       intro l0 h0 m0 cap' k1 k2 k3 k4 k5 k6 k7;simp only [VR];refine ⟨hb,if m0=l0 then ad else ad.add (l0*sz),m0-l0,e1,hle,by split<;>simp_all,by omega,by omega,k4,fun hext=>?_⟩;obtain ⟨b,o1,hρ,hle2,had,hcap,cur,T,hh1,hfit⟩:=hcond hext;have:=k5 hext;refine ⟨b,o1,hρ,by omega,fun hne=>?_,?_,cur,T,hh1,?_⟩
       ·rw [WN (by omega),had (by omega),pP,← hesz];congr 1;rw [dC];omega
       ·cases cap' with
        | some c0=>have:=k7 hext ⟨c0,rfl⟩;simp only [mK];omega
        | none =>obtain ⟨rfl,rfl⟩:=k6 rfl;simp only [mK] at hcap ⊢;omega
       ·refine jT (Nat.add_le_add_left (gK _ (by omega)) _) hfit
      have hlen:hb.rows.length=ext→lo0+len≤ext:=fun hext=>(hcond hext).choose_spec.choose_spec.2.1
      have hcapc:∀ c0,cap=some c0→hb.rows.length=ext→lo0+c0≤ext:=by intro c0 e hext;obtain ⟨b,o1,_,_,_,hcap,_⟩:=hcond hext;subst e;have:=hcc _ rfl;simp only [mK] at hcap;omega
      split at hrr
      ·split at hrr
       ·rename_i hbd
        cases hrr
        have hhc:hh.getD len≤c∧(hb.rows.length=ext→lo0+(hh.getD len).toNat≤ext):=by
         rcases hbd.2.2 with h1|h1
         ·exact ⟨by omega,fun hext=>by have:=hlen hext;omega⟩
         ·cases cap with
          | none=>simp only [AS] at h1;exact ⟨by omega,fun hext=>by have:=hlen hext;omega⟩
          | some c0 =>simp only [AS] at h1;have:=hcc _ rfl;exact ⟨by omega,fun hext=>by have:=hcapc _ rfl hext;omega⟩
        refine fin e2 hbd.1 hbd.2.1 (by simp only [Option.getD_none];exact hhc.1) (by simp) ?_;simp only [Option.getD_none,cM] at *
        have e3:(hh.getD (len:Int)-l.getD 0).toNat=(hh.getD (len:Int)).toNat-(l.getD 0).toNat:=by omega
        rw [e3];refine part _ _ _ _ (by omega) (by omega) (bW _) ?_ hhc.2 ?_ ?_
        ·intro c0 e
         cases cap with
         | none=>cases e
         | some c1=>simp at e;have:=hcc _ rfl;omega
        ·intro e
         cases cap with
         | none=>exact ⟨rfl,rfl⟩
         | some c1=>cases e
        ·rintro hext ⟨c0,e⟩
         cases cap with
         | none=>cases e
         | some c1=>have:=hcapc _ rfl hext;have:=hcc _ rfl;omega
       ·cases hrr
      ·rename_i mm _;split at hrr
       ·rename_i hbd
        cases hrr
        have hhc:mm≤c∧(hb.rows.length=ext→lo0+mm.toNat≤ext):=by
         rcases hbd.2.2.2 with h1|h1
         ·exact ⟨by omega,fun hext=>by have:=hlen hext;omega⟩
         ·cases cap with
          | none=>simp only [AS] at h1;exact ⟨by omega,fun hext=>by have:=hlen hext;omega⟩
          | some c0 =>simp only [AS] at h1;have:=hcc _ rfl;exact ⟨by omega,fun hext=>by have:=hcapc _ rfl hext;omega⟩
        refine fin e2 hbd.1 hbd.2.1 (by simp only [wP];exact hbd.2.2.1) (by simp only [wP];exact hhc.1) ?_;simp only [wP] at *
        have e3:(hh.getD (len:Int)-l.getD 0).toNat=(hh.getD (len:Int)).toNat-(l.getD 0).toNat:=by omega
        have e4:(mm-l.getD 0).toNat=mm.toNat-(l.getD 0).toNat:=by omega
        rw [e3,e4];refine part _ _ _ _ (by omega) (by omega) (by omega) ?_ (fun hext=>by have:=hhc.2 hext;omega) (fun e=>by cases e) (fun hext _=>hhc.2 hext);intro c0 e;cases e;rfl
       ·cases hrr
    ·cases hrr
   ·cases h
 ·cases h
end
def cT {α:Type} (l:List α) (o n:Nat):List α:=(l.drop o).take n
def eJ {α:Type} (l:List α) (o:Nat) (xs:List α):List α:=l.take o++(xs++l.drop (o+xs.length))
theorem rH {α:Type} {l:List α} {o:Nat} {xs:List α} (h:o+xs.length≤l.length):(eJ l o xs).length=l.length:=by simp only [eJ,dM,kW,kD];omega
theorem rI {α:Type} (l:List α) (o n j:Nat):(cT l o n)[j]?=if j<n then l[o+j]? else none:=by simp [cT,qU]
theorem DA {α:Type} {l:List α} {o:Nat} {xs:List α} (h:o+xs.length≤l.length) (j:Nat) :
  (eJ l o xs)[j]?=if j<o then l[j]? else if j<o+xs.length then xs[j-o]? else l[j]?:=by
 simp only [eJ,pF,kW,qU,sM];have e:min o l.length=o:=by omega
 rw [e]
 by_cases h1:j<o
 ·simp [h1]
 ·simp only [h1,if_false]
  by_cases h2:j<o+xs.length
  ·rw [WM (by omega),WM h2]
  ·rw [WN (by omega),WN h2];congr 1;omega
theorem JB {α:Type} {l:List α} {o:Nat} {xs:List α} (h:o+xs.length≤l.length) {p n:Nat} (hd:p+n≤o∨o+xs.length≤p):cT (eJ l o xs) p n=cT l p n:=by
 apply qV;intro j;rw [rI,rI]
 by_cases hj:j<n
 ·simp only [hj,if_true];rw [DA h]
  by_cases h1:p+j<o
  ·simp [h1]
  ·rw [WN h1,WN (by omega)]
 ·simp [hj]
theorem lm {α:Type} {l:List α} {o:Nat} {xs:List α} (h:o+xs.length≤l.length) {p n:Nat} (h1:p≤o) (h2:o+xs.length≤p+n) (hpn:p+n≤l.length):cT (eJ l o xs) p n=eJ (cT l p n) (o-p) xs:=by
 have hl:(cT l p n).length=n:=by simp [cT];omega
 apply qV;intro j;rw [rI (eJ l o xs),DA h,DA (l:=cT l p n) (by rw [hl];omega),rI]
 by_cases hj:j<n
 ·simp only [hj,if_true]
  by_cases h3:p+j<o
  ·rw [WM h3,WM (by omega)]
  ·rw [WN h3]
   by_cases h4:p+j<o+xs.length
   ·rw [WM h4,WN (by omega),WM (by omega)];congr 1;omega
   ·rw [WN h4,WN (by omega),WN (by omega)]
 ·simp only [hj,if_false];rw [WN (by omega),WN (by omega)]
section
variable {P:Program} {E:Env} {nt:Nat} {g g':Gh} {F:aD} {H H':Hp} {a:Act} {tmps:Array Value} {w w':World} {o:Oper} {out:Out}
theorem ln (hr:Rel E nt g F H tmps w) {id lo len ext:Nat} {cap:Option Nat} {v:Value} {hb:HB} (h:VR g H w (.own id lo len ext cap) v) (e:H[id]?=some hb) (hl:hb.rows.length=ext) (hp:hb.pu=true) :
  ∃ g',Rel E nt g' F (H.set id { hb with fz:=true }) tmps w∧Nx g g' H (H.set id { hb with fz:=true }) w w∧g'.β=g.β∧g'.ρ=g.ρ∧RC g'.I w (.data ((hb.rows.drop lo).take len)) [v]:=by
 simp only [VR] at h;obtain ⟨hb',ad,c,e',hle,hv,hc,hm,hcc,hcond⟩:=h;rw [e] at e';cases e';obtain ⟨b,o1,hρ,hle2,had,_,_⟩:=hcond hl;obtain ⟨g',b',o',h1,h2,h3,h4,h5,h6,h7,h8⟩:=hr.freeze e hp;rw [hρ] at h5;cases h5;refine ⟨g',h1,h2,h4,h3,?_⟩;simp only [RC];refine ⟨some ad,len,c,by rw [hv],?_,hc,hm,?_⟩
 ·rw [kW,kD];omega
 ·by_cases hz:len=0
  ·subst hz;left;simp
  ·right;exact ⟨b,o1+lo*hb.esz,hb.esz,by rw [had (by omega)],h6,h8,Jp h7 lo len⟩
theorem Gl (hr:Rel E nt g F H tmps w) {p q:PV} {v:Value} (h:VR g H w p v) (hq:yfB H p=some (q,H')) :
  ∃ g',Rel E nt g' F H' tmps w∧Nx g g' H H' w w∧g'.β=g.β∧g'.ρ=g.ρ∧RC g'.I w q [v]∧q.one=true:=by
 unfold yfB at hq;split at hq
 ·cases hq;simp only [VR] at h;subst h
  exact ⟨g,hr,Nx.refl g H w,rfl,rfl,by simp [RC],rfl⟩
 ·cases hq;simp only [VR] at h;obtain ⟨rfl,h⟩:=h
  exact ⟨g,hr,Nx.refl g H w,rfl,rfl,by simp only [RC];exact ⟨trivial,h⟩,rfl⟩
 ·cases hq;simp only [VR] at h;subst h
  exact ⟨g,hr,Nx.refl g H w,rfl,rfl,by simp only [RC];exact ⟨_,_,_,rfl,rfl,bW _,kF _,.inl trivial⟩,rfl⟩
 ·cases hq;simp only [VR] at h;obtain ⟨ad,rfl⟩:=h
  exact ⟨g,hr,Nx.refl g H w,rfl,rfl,by simp only [RC];exact ⟨_,_,_,rfl,rfl,bW _,kF _,.inl trivial⟩,rfl⟩
 ·cases hq;simp only [VR] at h;obtain ⟨ad,c,rfl,hc,_⟩:=h
  exact ⟨g,hr,Nx.refl g H w,rfl,rfl,by simp only [RC];exact ⟨_,_,_,rfl,rfl,kF _,hc,.inl trivial⟩,rfl⟩
 ·cases hq;simp only [VR] at h
  exact ⟨g,hr,Nx.refl g H w,rfl,rfl,h,rfl⟩
 ·split at hq
  ·rename_i hb e;split at hq
   ·rename_i hc
    cases hq
    obtain ⟨g',h1,h2,h3,h4,h5⟩:=ln hr h e hc.1 hc.2.2;exact ⟨g',h1,h2,h3,h4,h5,rfl⟩
   ·cases hq
  ·cases hq
 ·cases hq
theorem Xr:∀ (cs ds:List PV) (vs:List Value) (H H':Hp) (g:Gh),Rel E nt g F H tmps w→bM g H w cs vs→yeq H cs=some (ds,H') →
  ∃ g',Rel E nt g' F H' tmps w∧Nx g g' H H' w w∧g'.β=g.β∧g'.ρ=g.ρ∧ya5 g'.I w ds vs
 | [],ds,vs,H,H',g,hr,h,hq=>by simp only [yeq,bT,Prod.mk.injEq] at hq;obtain ⟨rfl,rfl⟩:=hq;simp only [bM] at h;subst h;exact ⟨g,hr,Nx.refl g H w,rfl,rfl,by simp [ya5]⟩
 | x::r,ds,vs,H,H',g,hr,h,hq=>by
  simp only [yeq] at hq;split at hq
  ·rename_i y H1 hy;split at hq
   ·rename_i ys H2 hys
    cases hq
    simp only [bM] at h;obtain ⟨v,vr,rfl,ho,h1,h2⟩:=h;obtain ⟨g1,r1,n1,b1,p1,c1,o1⟩:=Gl hr h1 hy;obtain ⟨g2,r2,n2,b2,p2,c2⟩:=Xr r ys vr H1 H' g1 r1 (Jn n1.on r vr h2) hys;refine ⟨g2,r2,n1.trans n2,b2.trans b1,p2.trans p1,?_⟩;simp only [ya5];exact ⟨v,vr,rfl,o1,jM n2.on.keeps y [v] c1,c2⟩
   ·cases hq
  ·cases hq
theorem DB {H':Hp} (hr:Rel E nt g F H tmps w) {p q:PV} {v:Value} (h:VR g H w p v) (hq:yca H p=some (q,H')) :
  ∃ g',Rel E nt g' F H' tmps w∧Nx g g' H H' w w∧g'.β=g.β∧g'.ρ=g.ρ∧RC g'.I w q v.cells.toList∧eU g'.I w q v:=by
 have scalar:∀ {q:PV},yfB H p=some (q,H')→∃ g',Rel E nt g' F H' tmps w∧Nx g g' H H' w w∧g'.β=g.β∧g'.ρ=g.ρ∧RC g'.I w q v.cells.toList∧eU g'.I w q v:=by
  intro q hq;obtain ⟨g',h1,h2,h3,h4,h5,h6⟩:=Gl hr h hq;have hv:v.cells.toList=[v]:=by
   cases q<;>simp only [RC] at h5<;>first
    | (simp only [kJ,and_true] at h5;subst h5;rfl)
    | (obtain ⟨e,_⟩:=h5;simp only [kJ,and_true] at e;subst e;rfl)
    | (obtain ⟨_,_,_,e,_⟩:=h5;simp only [kJ,and_true] at e;subst e;rfl)
    | exact h5.elim
    | simp [PV.one] at h6
  refine ⟨g',h1,h2,h3,h4,by rw [hv];exact h5,?_⟩
  cases q<;>simp only [eU]<;>first | exact h5 | (simp only [RC] at h5;done) | (simp [PV.one] at h6;done)
 unfold yca at hq;split at hq
 ·rename_i cs;simp only [mI] at hq;obtain ⟨⟨ys,H1⟩,hys,e⟩:=hq
  cases e
  simp only [VR] at h;obtain ⟨vs,rfl,hvs⟩:=h;obtain ⟨g',h1,h2,h3,h4,h5⟩:=Xr cs ys vs H _ g hr hvs hys;exact ⟨g',h1,h2,h3,h4,by simpa only [RC,Value.cells] using h5,by simp only [eU];exact ⟨vs,rfl,h5⟩⟩
 ·exact scalar hq
theorem JC {I I':Nat→Prop} (k:zL I I' w w') {x:PV} {v:Value} (h:eU I w x v):eU I' w' x v:=by
 cases x<;>simp only [eU] at h ⊢ <;> first
  | (obtain ⟨b,o,esz,e,h1,h2,h3,h4⟩:=h;exact ⟨b,o,esz,e,(k b h1).1,h2,h3,Jl k _ _ _ _ h1 h4⟩)
  | exact jM k _ _ h
  | exact h
  | (obtain ⟨vs,e,h⟩:=h;exact ⟨vs,e,Np k _ _ h⟩)
theorem DC:∀ (cs ds:List PV) (vs:List Value) (H H':Hp) (g:Gh),Rel E nt g F H tmps w→bH g H w cs vs→ybd H cs=some (ds,H') →
  ∃ g',Rel E nt g' F H' tmps w∧Nx g g' H H' w w∧g'.β=g.β∧g'.ρ=g.ρ∧fW g'.I w ds vs
 | [],ds,vs,H,H',g,hr,h,hq=>by simp only [ybd,bT,Prod.mk.injEq] at hq;obtain ⟨rfl,rfl⟩:=hq;simp only [bH] at h;subst h;exact ⟨g,hr,Nx.refl g H w,rfl,rfl,by simp [fW]⟩
 | x::r,ds,vs,H,H',g,hr,h,hq=>by
  simp only [ybd] at hq;split at hq
  ·rename_i y H1 hy;split at hq
   ·rename_i ys H2 hys
    cases hq
    simp only [bH] at h;obtain ⟨v,vr,rfl,h1,h2⟩:=h;obtain ⟨g1,r1,n1,b1,p1,_,c1⟩:=DB hr h1 hy;obtain ⟨g2,r2,n2,b2,p2,c2⟩:=DC r ys vr H1 H' g1 r1 (wU n1.on r vr h2) hys;refine ⟨g2,r2,n1.trans n2,b2.trans b1,p2.trans p1,?_⟩;simp only [fW];exact ⟨v,vr,rfl,JC n2.on.keeps c1,c2⟩
   ·cases hq
  ·cases hq
theorem Rel.alloc (h:Rel E nt g F H tmps w) (ob:Obj):Rel E nt g F H tmps (w.alloc ob)∧Nx g g H H w (w.alloc ob):=by
 have hon:=On.alloc (g:=g) (H:=H) h.imm ob;refine ⟨h.upd hon rfl (by simp) (fun s b hb=>⟨oP w _ (h.bimm s b hb).2,(h.bimm s b hb).1,fun ⟨id,o,hr⟩=>h.brho s b id o hb hr⟩) ?_ h.dist h.rsome (fun b hb=>by have:=h.imm b hb;simp;omega),?_⟩
 ·intro id hb e;obtain ⟨b,o,hk⟩:=h.heap id hb e;exact ⟨b,o,nW hon hk (oP w _ (h.brng ⟨id,o,hk.at_⟩)) rfl (fun x=>x)⟩
 ·exact ⟨rfl,rfl,rfl,bW _,by simp,fun b hb _ _=>oP w _ hb,fun _ _ x=>x,fun _ _ x=>.inl x,fun _ _ x=>x,hon⟩
theorem Xs {x:PV} {v:Value} {I:Nat→Prop} (hc:yko v=some x) (hp:AW (nX x)=true):RC I w (nX x) [v]∧(nX x).one=true:=by
 unfold yko at hc;split at hc
 ·cases hc;simp [nX,RC,PV.one]
 ·split at hc
  ·rename_i hk;cases hc;simp only [nX,RC];exact ⟨⟨trivial,hk⟩,rfl⟩
  ·cases hc
 ·cases hc;simp only [nX,RC];exact ⟨⟨_,_,_,rfl,rfl,bW _,kF _,.inl trivial⟩,rfl⟩
 ·cases hc;simp [nX,AW] at hp
 ·cases hc;simp [nX,AW] at hp
 ·cases hc
theorem Xt {I:Nat→Prop}:∀ (l:List Value) (ps:List PV),yfO l=some ps→(ps.map nX).all AW=true→ya5 I w (ps.map nX) l
 | [],ps,h,_=>by simp [yfO] at h;subst h;simp [ya5]
 | v::r,ps,h,hp=>by
  simp only [yfO] at h;split at h
  ·rename_i x l h1 h2
   cases h
   simp only [sO,List.all_cons,bO] at hp;obtain ⟨c1,c2⟩:=Xs (I:=I) (w:=w) h1 hp.1;simp only [sO,ya5];exact ⟨v,r,rfl,c2,c1,Xt r l h2 hp.2⟩
  ·cases h
theorem zU {t:TypeId} {pu np:Bool} {z:PV} (h:ycL P t np=some (pu,z)):∃ i v,P.info? t=some i∧i.zero=some v∧v.cells.size=i.size∧bA g H w z v.cells.toList∧(pu=true→RC g.I w z v.cells.toList):=by
 unfold ycL at h;split at h
 ·rename_i p hp;obtain ⟨i,v,hi,hv,_,_,hrow,hsz⟩:=JA (P:=P) (g:=g) (H:=H) (w:=w) hp;simp only [bT] at h;split at h
  ·rename_i hpure;have hpure:=(Bool.and_eq_true_iff.1 hpure).1
   cases h
   have hrc:RC g.I w (zM p) v.cells.toList:=by
    unfold yun at hp;rw [hi] at hp;simp only [hv] at hp;split at hp
    ·rename_i p' hp';split at hp
     ·cases hp
      unfold yrd at hp';split at hp'
      ·rename_i cs;split at hp'
       ·rename_i l hl
        cases hp'
        simp only [zM,RC,Value.cells];exact Xt _ _ hl (by simpa [zM,Jr] using hpure)
       ·cases hp'
      ·rename_i v' hnagg;have hone:=(Js (g:=g) (H:=H) (w:=w) hp').1;have e1:zM p=nX p:=by cases p<;>simp [zM,PV.one] at hone ⊢
       have e2:Jr (zM p)=AW (nX p):=by rw [e1];cases p<;>simp [nX,Jr,PV.one] at hone ⊢
       have e3:v.cells.toList=[v]:=by
        cases v<;>simp [Value.cells]
        exact absurd rfl (hnagg _)
       rw [e1,e3];exact (Xs hp' (by rw [← e2];exact hpure)).1
     ·cases hp
    ·cases hp
   exact ⟨i,v,hi,hv,hsz,Jq _ _ hrc,fun _=>hrc⟩
  ·cases h
   exact ⟨i,v,hi,hv,hsz,hrow,fun hpu=>by cases hpu⟩
 ·cases h
def rJ (E:Env) (nt:Nat) (g:Gh) (H:Hp) (a:Act) (w:World) (dst:Option Nat) (F':aD) (H':Hp) (r:Result Next):Prop:=
 ∃ v w' g',(r=.ok (.value v) w'∨(r=.ok .skip w'∧v=undef))∧Nx g g' H H' w w'∧Rel E nt g' F' H' (a.put dst v).tmps w'
theorem Xu (a:Act) (dst:Option Nat) (v:Value):(a.put dst v).tmps=(match dst with | some d=>a.tmps.setIfInBounds d v | none=>a.tmps):=by
 cases dst<;>rfl
theorem rJ.of {r:Result Next} (h:bS E nt g F H a.tmps w out r) {dst:Option Nat} {F':aD} (hd:∀ d,dst=some d→d<nt) (hp:ydT (jA F out.bx) dst out.x=some F') (hb:∀ row,out.x≠some (.box row)):rJ E nt g H a w dst F' out.h r:=by
 obtain ⟨v,w',g',hr,hn,hrel,hx⟩:=h;refine ⟨v,w',g',hr,hn,?_⟩;rw [Xu]
 cases dst with
 | none=>
  cases hox:out.x with
  | none=>rw [hox] at hp;simp [ydT] at hp;subst hp;exact hrel
  | some fv=>
   cases fv with
   | box row=>exact absurd hox (hb row)
   | v p=>rw [hox] at hp;simp [ydT] at hp;subst hp;exact hrel
   | bp s oo=>rw [hox] at hp;simp [ydT] at hp;subst hp;exact hrel
 | some d=>
  have hd':=hd d rfl
  cases hox:out.x with
  | none=>rw [hox] at hp;simp [ydT] at hp;subst hp;exact hrel.del d v
  | some fv=>
   rw [hox] at hx hp
   cases fv with
   | box row=>exact absurd hox (hb row)
   | v p=>simp [ydT] at hp;subst hp;exact hrel.putV hd' hx
   | bp s oo =>simp [ydT] at hp;subst hp;obtain ⟨b,h1,rfl⟩:=hx;exact hrel.putB hd' h1
theorem lq (hr:Rel E nt g F H a.tmps w) {e:TypeId} {z:PV} {d:Nat} {F':aD} (ho:o.op=.alloc e) (hz:yun P e=some z) (hd:d<nt) (hp:ydT F (some d) (some (.box z))=some F') :
  rJ E nt g H a w (some d) F' H ((execOp a.eval o).run P w):=by
 obtain ⟨i,v,hi,hv,_,_,hrow,hsz⟩:=JA (P:=P) (g:=g) (H:=H) (w:=w) hz;simp only [ydT] at hp
 cases hp
 obtain ⟨g',h1,h2⟩:=(hr.less (Jm F d)).newBox (cs:=v.cells) (T:=e) hd (WR F d) hrow;refine ⟨_,_,g',.inl ?_,h2,h1⟩;simp [execOp,ho,Instr.alloc,zeroValue,typeInfo,hi,hv,newVar,newRow]
theorem lr (hr:Rel E nt g F H a.tmps w) {e:TypeId} {x:Operand} {x':Opd} {p:PV} {d:Nat} {F':aD} (ho:o.op=.box e x) (hx:opd x=some x') (hpv:evV E F x'=some p) (hone:jK p.cells=true) (hd:d<nt) (hp:ydT F (some d) (some (.box p))=some F') :
  rJ E nt g H a w (some d) F' H ((execOp a.eval o).run P w):=by
 have hrow:=(AY (cS hr hx hpv) hone).2;simp only [ydT] at hp
 cases hp
 obtain ⟨g',h1,h2⟩:=(hr.less (Jm F d)).newBox (cs:=(a.eval x).cells) (T:=e) hd (WR F d) hrow;refine ⟨_,_,g',.inl ?_,h2,h1⟩;simp [execOp,ho,Instr.box,newVar,newRow]
theorem lu (hr:Rel E nt g F H a.tmps w) {e:TypeId} {pu np:Bool} {sz:Nat} {z:PV} (ho:o.op=.alloc e) (hz:ycL P e np=some (pu,z)) (hs:ydo P e=some sz) {call} (h:yas E call F H (.aH pu sz z)=some out) :
  bS E nt g F H a.tmps w out ((execOp a.eval o).run P w):=by
 obtain ⟨i,v,hi,hv,hsz,hrow,hpure⟩:=zU (P:=P) (g:=g) (H:=H) (w:=w) hz;obtain ⟨_,hpos,i',hi',hsz'⟩:=mO (P:=P) (w:=w) hs;rw [hi] at hi';cases hi';simp only [yas,bT] at h;subst h;have hl:v.cells.toList.length=sz:=by simp;omega
 obtain ⟨g',h1,h2,h3⟩:=hr.newBlk (hb:=⟨false,pu,sz,[z]⟩) (cs:=v.cells) (T:=e) hpos rfl (by simp;omega)
  (fun k x hk=>by
   cases k with
   | zero=>simp at hk;subst hk;exact ⟨v.cells.toList,hl,hrow,by simp [wJ]⟩
   | succ k=>simp at hk)
  (fun hpu k x hk=>by
   cases k with
   | zero=>simp at hk;subst hk;exact ⟨v.cells.toList,hl,hpure hpu,by simp [wJ]⟩
   | succ k=>simp at hk)
 refine ⟨.pointer (some ⟨w.heap.size,0,none⟩),_,g',.inl ?_,h2,h1,?_⟩
 ·simp [execOp,ho,Instr.alloc,zeroValue,typeInfo,hi,hv,newVar,newRow]
 ·simp only [XR,VR];exact ⟨⟨false,pu,sz,[z]⟩,_,by simp,by simp,rfl,fun _=>⟨w.heap.size,0,h3,by simp,by simp⟩⟩
theorem NH (hr:Rel E nt g F H tmps w) {pu:Bool} {p q:PV} {v:Value} {H1:Hp} (h:VR g H w p v) (hq:(if pu then yca H p else some (p,H))=some (q,H1)) (hone:jK q.cells=true) :
  ∃ g',Rel E nt g' F H1 tmps w∧Nx g g' H H1 w w∧g'.β=g.β∧g'.ρ=g.ρ∧bA g' H1 w q v.cells.toList∧(pu=true→RC g'.I w q v.cells.toList):=by
 cases pu
 ·simp only [gE,if_false,bT,Prod.mk.injEq] at hq;obtain ⟨rfl,rfl⟩:=hq;exact ⟨g,hr,Nx.refl g H w,rfl,rfl,(AY h hone).2,fun x=>by cases x⟩
 ·simp only [if_true] at hq;obtain ⟨g',h1,h2,h3,h4,h5,_⟩:=DB hr h hq;exact ⟨g',h1,h2,h3,h4,Jq _ _ h5,fun _=>h5⟩
theorem JD {row:PV} {vs:List Value} (h:bA g H w row vs):vs.length=row.cells.length:=rG _ _ (zP h)
theorem lv (hr:Rel E nt g F H a.tmps w) {e:TypeId} {pu:Bool} {sz:Nat} {x:Operand} {x':Opd} (ho:o.op=.box e x) (hs:ydo P e=some sz) (hx:opd x=some x') {call} (h:yas E call F H (.boxH pu sz x')=some out) :
  bS E nt g F H a.tmps w out ((execOp a.eval o).run P w):=by
 obtain ⟨_,hpos,_⟩:=mO (P:=P) (w:=w) hs;simp only [yas] at h;split at h
 ·rename_i p hp;split at h
  ·rename_i q H1 hq;split at h
   ·rename_i hc
    cases h
    obtain ⟨g1,r1,n1,b1,p1,row1,pure1⟩:=NH hr (cS hr hx hp) hq hc.2;have hl:(a.eval x).cells.toList.length=sz:=by rw [JD row1];exact hc.1
    obtain ⟨g',h1,h2,h3⟩:=r1.newBlk (hb:=⟨false,pu,sz,[q]⟩) (cs:=(a.eval x).cells) (T:=e) hpos rfl (by simp at hl ⊢;omega)
     (fun k y hk=>by
      cases k with
      | zero=>simp at hk;subst hk;exact ⟨_,hl,row1,by simp [wJ]⟩
      | succ k=>simp at hk)
     (fun hpu k y hk=>by
      cases k with
      | zero=>simp at hk;subst hk;exact ⟨_,hl,pure1 hpu,by simp [wJ]⟩
      | succ k=>simp at hk)
    refine ⟨.pointer (some ⟨w.heap.size,0,none⟩),_,g',.inl ?_,n1.trans h2,h1,?_⟩
    ·simp [execOp,ho,Instr.box,newVar,newRow]
    ·simp only [XR,VR];exact ⟨⟨false,pu,sz,[q]⟩,_,by simp,by simp,rfl,fun _=>⟨w.heap.size,0,h3,by simp,by simp⟩⟩
   ·cases h
  ·cases h
 ·cases h
def gC (g:Gh) (H:Hp) (w:World) (pu:Bool) (esz:Nat) (rows:List PV) (cells:List Value):Prop:=
 rows.length*esz≤cells.length∧∀ i x,rows[i]?=some x→bA g H w x (cT cells (i*esz) esz)∧(pu=true→RC g.I w x (cT cells (i*esz) esz))
theorem gC.on {pu:Bool} {esz:Nat} {rows:List PV} {cells:List Value} (k:On g g' H H' w w') (h:gC g H w pu esz rows cells):gC g' H' w' pu esz rows cells:=
 ⟨h.1,fun i x hx=>⟨wV k _ _ (h.2 i x hx).1,fun hp=>jM k.keeps _ _ ((h.2 i x hx).2 hp)⟩⟩
theorem zV {α:Type} {l:List α} {o n:Nat} (h:o+n≤l.length):(cT l o n).length=n:=by simp [cT];omega
theorem lz {α:Type} {l:List α} {o:Nat} {xs:List α} (h:o+xs.length≤l.length):cT (eJ l o xs) o xs.length=xs:=by
 apply qV;intro j;rw [rI,DA h]
 by_cases hj:j<xs.length
 ·rw [WM hj,WN (by omega),WM (by omega)];congr 1;omega
 ·rw [WN hj,jI (Nat.le_of_not_lt hj)]
theorem gC.set {pu:Bool} {esz:Nat} {rows:List PV} {cells xs:List Value} {i:Nat} {q:PV} (h:gC g H w pu esz rows cells) (hi:i<rows.length) (hl:xs.length=esz) (hq:bA g H w q xs) (hpq:pu=true→RC g.I w q xs) :
  gC g H w pu esz (rows.set i q) (eJ cells (i*esz) xs):=by
 have hmul:i*esz+esz≤rows.length*esz:=by
  have:(i+1)*esz≤rows.length*esz:=gK _ hi
  rwa [dC,iZ] at this
 have hfit:i*esz+xs.length≤cells.length:=by have:=h.1;omega
 refine ⟨by rw [rH hfit,sN];exact h.1,fun k x hk=>?_⟩;rw [Gc] at hk
 by_cases e:i=k
 ·subst e;rw [WM rfl,WM hi] at hk
  cases hk
  have:=lz hfit;rw [hl] at this;rw [this];exact ⟨hq,hpq⟩
 ·rw [WN e] at hk;have hd:k*esz+esz≤i*esz∨i*esz+xs.length≤k*esz:=by
   rcases Nat.lt_or_gt_of_ne e with h1|h1
   ·right;have:(i+1)*esz≤k*esz:=gK _ h1;rw [dC,iZ] at this;omega
   ·left;have:(k+1)*esz≤i*esz:=gK _ h1
    rwa [dC,iZ] at this
  rw [JB hfit hd];exact h.2 k x hk
theorem JE:∀ (parts:List (Nat×Operand)) (ps:List (Nat×Opd)) (rows rows':List PV) (H H1:Hp) (g:Gh) (cells:List Value) (pu:Bool) (esz:Nat),Rel E nt g F H a.tmps w→zN parts=some ps→gC g H w pu esz rows cells→cells.length=rows.length*esz →
  yhl E F pu esz rows H ps=some (rows',H1) →
  ∃ g' us,Rel E nt g' F H1 a.tmps w∧Nx g g' H H1 w w∧g'.β=g.β∧Instr.fill (fun i=>some (i*esz,esz)) cells.toArray (parts.map fun (i,x)=>(i,a.eval x))=some us∧gC g' H1 w pu esz rows' us.toList∧rows'.length=rows.length∧us.size=cells.length
 | [],ps,rows,rows',H,H1,g,cells,pu,esz,hr,hp,hl,hc,hf=>by simp [zN] at hp;subst hp;simp only [yhl,bT,Prod.mk.injEq] at hf;obtain ⟨rfl,rfl⟩:=hf;exact ⟨g,cells.toArray,hr,Nx.refl g H w,rfl,by simp [Instr.fill],by simpa using hl,rfl,by simp⟩
 | (i,x)::r,ps,rows,rows',H,H1,g,cells,pu,esz,hr,hp,hl,hc,hf=>by
  simp only [zN] at hp;split at hp
  ·rename_i x' l hx hrest
   cases hp
   simp only [yhl] at hf;split at hf
   ·rename_i p hpv;split at hf
    ·rename_i q H2 hq;split at hf
     ·rename_i hcond;obtain ⟨c1,c2,c3⟩:=hcond;obtain ⟨g1,r1,n1,b1,_,row1,pure1⟩:=NH hr (cS hr hx hpv) hq c3;have hlen:(a.eval x).cells.toList.length=esz:=by rw [JD row1];exact c1
      have hl2:=(hl.on n1.on).set (i:=i) c2 hlen row1 pure1;have hmul:i*esz+esz≤rows.length*esz:=by
       have:(i+1)*esz≤rows.length*esz:=gK _ c2
       rwa [dC,iZ] at this
      have hfit:i*esz+(a.eval x).cells.toList.length≤cells.length:=by omega
      obtain ⟨g2,us,r2,n2,b2,f2,l2,len2,s2⟩:=JE r l (rows.set i q) rows' H2 H1 g1 (eJ cells (i*esz) (a.eval x).cells.toList) pu esz r1 hrest hl2 (by rw [rH hfit,sN];exact hc) hf;refine ⟨g2,us,r2,n1.trans n2,b2.trans b1,?_,l2,by rw [len2,sN],by rw [s2,rH hfit]⟩;rw [sO,ND _ _ _ _ _ _ _ rfl (by simpa using hlen) (by simp;omega)];rw [← f2];simp [eJ,hlen]
     ·cases hf
    ·cases hf
   ·cases hf
  ·cases hp
theorem Gm {t:TypeId} {pu np:Bool} {z:PV} (h:ycL P t np=some (pu,z)) (w:World):∃ v,(zeroValue t).run P w=.ok v w∧∀ (g:Gh) (H:Hp),bA g H w z v.cells.toList∧(pu=true→RC g.I w z v.cells.toList):=by obtain ⟨i,v,hi,hv,_,_,_⟩:=zU (P:=P) (g:=⟨fun _=>none,fun _=>none,fun _=>False,fun _=>none⟩) (H:=[]) (w:=w) h;refine ⟨v,by simp [zeroValue,typeInfo,hi,hv],fun g H=>?_⟩;obtain ⟨i',v',hi',hv',_,h1,h2⟩:=zU (P:=P) (g:=g) (H:=H) (w:=w) h;rw [hi] at hi';cases hi';rw [hv] at hv';cases hv';exact ⟨h1,h2⟩
theorem DD {t:TypeId} {pu np:Bool} {z:PV} {sz:Nat} (h:ycL P t np=some (pu,z)) (hs:ydo P t=some sz) {w:World} {v:Value} (hv:(zeroValue t).run P w=.ok v w):v.cells.size=sz:=by obtain ⟨i,v',hi,hv',hsz,_,_⟩:=zU (P:=P) (g:=⟨fun _=>none,fun _=>none,fun _=>False,fun _=>none⟩) (H:=[]) (w:=w) h;obtain ⟨_,_,i',hi',hsz'⟩:=mO (P:=P) (w:=w) hs;rw [hi] at hi';cases hi';simp [zeroValue,typeInfo,hi,hv'] at hv;subst hv;omega
theorem Gn {α:Type} (f:Nat→α):(Array.range 0).map f=#[]:=by apply Array.ext';simp
theorem JF {cs:Array Value} {sz n:Nat} (hs:cs.size=sz) (_hpos:0<sz) (i:Nat) (hi:i<n):cT ((Array.range (n*sz)).map (cs[· % cs.size]!)).toList (i*sz) sz=cs.toList:=by
 have hmul:i*sz+sz≤n*sz:=by
  have:(i+1)*sz≤n*sz:=gK _ hi
  rwa [dC,iZ] at this
 apply qV;intro j;rw [rI]
 by_cases hj:j<sz
 ·rw [WM hj];simp only [Dd,Array.toList_range,wN,List.getElem?_range (show i*sz+j<n*sz by omega),Option.map_some];have hm:(i*sz+j)%cs.size=j:=by
   rw [hs,Nat.add_comm,Nat.add_mul_mod_self_right,Nat.mod_eq_of_lt hj]
  rw [hm];have hj':j<cs.size:=by omega
  simp [hj']
 ·rw [WN hj];simp;omega
theorem AZ {pu:Bool} {sz n:Nat} {z:PV} {cs:Array Value} (hs:cs.size=sz) (hpos:0<sz) (h1:bA g H w z cs.toList) (h2:pu=true→RC g.I w z cs.toList):gC g H w pu sz (replicate n z) ((Array.range (n*sz)).map (cs[· % cs.size]!)).toList:=by
 refine ⟨by simp,fun i x hx=>?_⟩;have hi:i<n:=by
  rcases qA4 i n with h|h
  ·exact h
  ·rw [jI (by simp;exact h)] at hx;cases hx
 have e:x=z:=by rw [List.getElem?_replicate,WM hi] at hx;cases hx;rfl
 subst e;rw [JF hs hpos i hi];exact ⟨h1,h2⟩
theorem me (hr:Rel E nt g F H a.tmps w) {t e:TypeId} {pu:Bool} {sz len:Nat} {z:PV} {parts:Array (Nat×Operand)} {ps:List (Nat×Opd)} (ho:o.op=.buildSlice t len parts) (hu:P.underlying t=some (.slice e)) (hs:ydo P e=some sz) (hz:ycL P e=some (pu,z))
  (hps:zN parts.toList=some ps) (hle:len*sz≤2 ^ 24) (hemp:len≠0∨parts.toList.isEmpty=true) {call} (h:yas E call F H (.bSl pu sz z len ps)=some out) :
  bS E nt g F H a.tmps w out ((execOp a.eval o).run P w):=by
 obtain ⟨hsz,hpos,_⟩:=mO (P:=P) (w:=w) hs;obtain ⟨v,hv,hzr⟩:=Gm (P:=P) hz w;have hvs:=DD hz hs hv;have e1:(parts.map fun (i,x)=>(i,a.eval x)).toList=parts.toList.map fun (i,x)=>(i,a.eval x):=by simp
 have hnle:¬len*sz>2 ^ 24:=by omega
 simp only [yas] at h;split at h
 ·rename_i hl0;subst hl0;rw [cW h];have hpe:parts=#[]:=by
   rcases hemp with h1|h1
   ·exact absurd rfl h1
   ·rw [yX] at h1;exact qW.1 (by simpa using h1)
  obtain ⟨r1,n1⟩:=hr.alloc (.cells #[] e);refine ⟨.slice (some ⟨w.heap.size,0,none⟩) 0 0,_,g,.inl ?_,n1,r1,?_⟩
  ·subst hpe;simp [execOp,ho,Instr.buildSlice,run_underlying hu,hsz,Instr.fill,newRow];rw [Gn]
  ·simp only [XR,VR];exact ⟨_,rfl⟩
 ·rename_i hl0;split at h
  ·rename_i rows' H1 hf;rw [cW h];obtain ⟨z1,z2⟩:=hzr g H;have hlie:=AZ (n:=len) (pu:=pu) hvs hpos z1 z2;have hcl:(((Array.range (len*sz)).map (v.cells[· % v.cells.size]!)).toList).length=(replicate len z).length*sz:=by simp
   obtain ⟨g1,us,r1,n1,b1,f1,l1,len1,s1⟩:=JE parts.toList ps (replicate len z) rows' H H1 g _ pu sz hr hps hlie hcl hf;have hlen:rows'.length=len:=by simpa using len1
   have hus:us.size=len*sz:=by simpa using s1
   have hseg:∀ i x,rows'[i]?=some x→(cT us.toList (i*sz) sz).length=sz:=by
    intro i x hx;have hi:i<rows'.length:=by
     rcases qA4 i rows'.length with h|h
     ·exact h
     ·rw [jI h] at hx;cases hx
    apply zV;have:(i+1)*sz≤len*sz:=gK _ (by omega);rw [dC,iZ] at this;simp;omega
   obtain ⟨g2,r2,n2,hρ⟩:=r1.newBlk (hb:=⟨false,pu,sz,rows'⟩) (cs:=us) (T:=e) hpos rfl (by simp only [hlen,hus];exact bW _)
    (fun i x hx=>⟨cT us.toList (i*sz) sz,hseg i x hx,(l1.2 i x hx).1,by rw [hseg i x hx];rfl⟩)
    (fun hpu i x hx=>⟨cT us.toList (i*sz) sz,hseg i x hx,(l1.2 i x hx).2 hpu,by rw [hseg i x hx];rfl⟩)
   refine ⟨.slice (some ⟨w.heap.size,0,none⟩) len len,_,g2,.inl ?_,n1.trans n2,r2,?_⟩
   ·have hne:¬len*sz=0:=by
     intro e0;rcases Nat.mul_eq_zero.1 e0 with h1 | h1
     ·exact hl0 h1
     ·omega
    simp only [Array.toArray_toList] at f1;simp only [execOp,ho,Instr.buildSlice,Sem.run_bind,run_underlying hu,Result.andThen_ok,hsz,WN hnle,WN hne,hv,Sem.run_pure,e1,f1];simp [newRow]
   ·simp only [XR,VR];refine ⟨⟨false,pu,sz,rows'⟩,_,len,by simp,by simp [hlen],rfl,bW _,?_,fun c0 e0=>by cases e0;rfl,fun _=>?_⟩
    ·have:len≤len*sz:=yR _ hpos;unfold maxLen;omega
    ·refine ⟨w.heap.size,0,hρ,by omega,fun _=>by simp,by simp [mK],us,e,sW w _,by simp only [iK,hus];exact bW _⟩
  ·cases h
theorem mf (hr:Rel E nt g F H a.tmps w) {t e:TypeId} {pu:Bool} {sz len:Nat} {z:PV} {parts:Array (Nat×Operand)} {ps:List (Nat×Opd)} (ho:o.op=.buildSlice t len parts) (hu:P.underlying t=some (.slice e)) (hs:ydo P e=some sz) (hz:ycL P e=some (pu,z))
  (hps:zN parts.toList=some ps) (hle:len*sz≤2 ^ 24) (hemp:len≠0∨parts.toList.isEmpty=true) {call} (h:yas E call F H (.buildN pu sz z len ps)=some out) :
  bS E nt g F H a.tmps w out ((execOp a.eval o).run P w):=by
 obtain ⟨hsz,hpos,_⟩:=mO (P:=P) (w:=w) hs;obtain ⟨v,hv,hzr⟩:=Gm (P:=P) hz w;have hvs:=DD hz hs hv;have e1:(parts.map fun (i,x)=>(i,a.eval x)).toList=parts.toList.map fun (i,x)=>(i,a.eval x):=by simp
 have hnle:¬len*sz>2 ^ 24:=by omega
 simp only [yas] at h;split at h
 ·rename_i hl0;subst hl0;rw [cW h];have hpe:parts=#[]:=by
   rcases hemp with h1|h1
   ·exact absurd rfl h1
   ·rw [yX] at h1;exact qW.1 (by simpa using h1)
  obtain ⟨r1,n1⟩:=hr.alloc (.cells #[] e);refine ⟨.slice (some ⟨w.heap.size,0,none⟩) 0 0,_,g,.inl ?_,n1,r1,?_⟩
  ·subst hpe;simp [execOp,ho,Instr.buildSlice,run_underlying hu,hsz,Instr.fill,newRow];rw [Gn]
  ·simp only [XR,VR];exact ⟨_,rfl⟩
 ·rename_i hl0;split at h
  ·rename_i rows' H1 hf;rw [cW h];obtain ⟨z1,z2⟩:=hzr g H;have hlie:=AZ (n:=len) (pu:=pu) hvs hpos z1 z2;have hcl:(((Array.range (len*sz)).map (v.cells[· % v.cells.size]!)).toList).length=(replicate len z).length*sz:=by simp
   obtain ⟨g1,us,r1,n1,b1,f1,l1,len1,s1⟩:=JE parts.toList ps (replicate len z) rows' H H1 g _ pu sz hr hps hlie hcl hf;have hlen:rows'.length=len:=by simpa using len1
   have hus:us.size=len*sz:=by simpa using s1
   have hseg:∀ i x,rows'[i]?=some x→(cT us.toList (i*sz) sz).length=sz:=by
    intro i x hx;have hi:i<rows'.length:=by
     rcases qA4 i rows'.length with h|h
     ·exact h
     ·rw [jI h] at hx;cases hx
    apply zV;have:(i+1)*sz≤len*sz:=gK _ (by omega);rw [dC,iZ] at this;simp;omega
   obtain ⟨g2,r2,n2,hρ⟩:=r1.newBlk (hb:=⟨false,pu,sz,rows'⟩) (cs:=us) (T:=e) hpos rfl (by simp only [hlen,hus];exact bW _)
    (fun i x hx=>⟨cT us.toList (i*sz) sz,hseg i x hx,(l1.2 i x hx).1,by rw [hseg i x hx];rfl⟩)
    (fun hpu i x hx=>⟨cT us.toList (i*sz) sz,hseg i x hx,(l1.2 i x hx).2 hpu,by rw [hseg i x hx];rfl⟩)
   refine ⟨.slice (some ⟨w.heap.size,0,none⟩) len len,_,g2,.inl ?_,n1.trans n2,r2,?_⟩
   ·have hne:¬len*sz=0:=by
     intro e0;rcases Nat.mul_eq_zero.1 e0 with h1 | h1
     ·exact hl0 h1
     ·omega
    simp only [Array.toArray_toList] at f1;simp only [execOp,ho,Instr.buildSlice,Sem.run_bind,run_underlying hu,Result.andThen_ok,hsz,WN hnle,WN hne,hv,Sem.run_pure,e1,f1];simp [newRow]
   ·simp only [XR,VR];refine ⟨⟨false,pu,sz,rows'⟩,_,len,by simp,by simp [hlen],rfl,bW _,?_,(fun c0 e0=>by cases e0),fun _=>?_⟩
    ·have:len≤len*sz:=yR _ hpos;unfold maxLen;omega
    ·refine ⟨w.heap.size,0,hρ,by omega,fun _=>by simp,by simp [mK],us,e,sW w _,by simp only [iK,hus];exact bW _⟩
  ·cases h
theorem Xv (hr:Rel E nt g F H a.tmps w) {x:Operand} {x':Opd} (ho:o.op=.move x∨o.op=.assign x) (hx:opd x=some x') {call} (h:yas E call F H (.mvD x')=some out) :
  bS E nt g F H a.tmps w out ((execOp a.eval o).run P w):=by
 simp only [yas] at h;split at h
 ·rename_i p hp;split at h
  ·rename_i rows H1 hq;rw [cW h];obtain ⟨g1,h1,h2,_,_,h3,_⟩:=Gl hr (cS hr hx hp) hq;refine ⟨_,w,g1,.inl (by rcases ho with ho | ho<;>simp [execOp,ho]<;>rfl),h2,h1,?_⟩;simp only [XR,VR];exact h3
  ·cases h
 ·cases h
theorem mg (hr:Rel E nt g F H a.tmps w) {t e:TypeId} {pu:Bool} {sz len:Nat} {z:PV} {parts:Array (Nat×Operand)} {ps:List (Nat×Opd)} (ho:o.op=.buildSlice t len parts) (hu:P.underlying t=some (.slice e)) (hs:ydo P e=some sz) (hz:ycL P e=some (pu,z)) (hpu:pu=true)
  (hps:zN parts.toList=some ps) (hle:len*sz≤2 ^ 24) (hemp:len≠0∨parts.toList.isEmpty=true) {call} (h:yas E call F H (.bD sz z len ps)=some out) :
  bS E nt g F H a.tmps w out ((execOp a.eval o).run P w):=by
 subst hpu;have hpu:true=true:=rfl;obtain ⟨hsz,hpos,_⟩:=mO (P:=P) (w:=w) hs;obtain ⟨v,hv,hzr⟩:=Gm (P:=P) hz w;have hvs:=DD hz hs hv;have e1:(parts.map fun (i,x)=>(i,a.eval x)).toList=parts.toList.map fun (i,x)=>(i,a.eval x):=by simp
 have hnle:¬len*sz>2 ^ 24:=by omega
 simp only [yas] at h;split at h
 ·rename_i hl0;subst hl0;rw [cW h];have hpe:parts=#[]:=by
   rcases hemp with h1|h1
   ·exact absurd rfl h1
   ·rw [yX] at h1;exact qW.1 (by simpa using h1)
  obtain ⟨r1,n1⟩:=hr.alloc (.cells #[] e);refine ⟨.slice (some ⟨w.heap.size,0,none⟩) 0 0,_,g,.inl ?_,n1,r1,?_⟩
  ·subst hpe;simp [execOp,ho,Instr.buildSlice,run_underlying hu,hsz,Instr.fill,newRow];rw [Gn]
  ·simp only [XR,VR];exact ⟨_,rfl⟩
 ·rename_i hl0;split at h
  ·rename_i rows' H1 hf;rw [cW h];obtain ⟨z1,z2⟩:=hzr g H;have hlie:=AZ (n:=len) (pu:=true) hvs hpos z1 z2;have hcl:(((Array.range (len*sz)).map (v.cells[· % v.cells.size]!)).toList).length=(replicate len z).length*sz:=by simp
   obtain ⟨g1,us,r1,n1,b1,f1,l1,len1,s1⟩:=JE parts.toList ps (replicate len z) rows' H H1 g _ true sz hr hps hlie hcl hf;have hlen:rows'.length=len:=by simpa using len1
   have hus:us.size=len*sz:=by simpa using s1
   have hseg:∀ i x,rows'[i]?=some x→(cT us.toList (i*sz) sz).length=sz:=by
    intro i x hx;have hi:i<rows'.length:=by
     rcases qA4 i rows'.length with h|h
     ·exact h
     ·rw [jI h] at hx;cases hx
    apply zV;have:(i+1)*sz≤len*sz:=gK _ (by omega);rw [dC,iZ] at this;simp;omega
   obtain ⟨g2,r2,n2,_,_,hI⟩:=r1.grew (w':=w.alloc (.cells us e)) ((Bel.refl _ _).alloc (bW _) _);refine ⟨.slice (some ⟨w.heap.size,0,none⟩) len len,_,g2,.inl ?_,n1.trans n2,r2,?_⟩
   ·have hne:¬len*sz=0:=by
     intro e0;rcases Nat.mul_eq_zero.1 e0 with h1 | h1
     ·exact hl0 h1
     ·omega
    simp only [Array.toArray_toList] at f1;simp only [execOp,ho,Instr.buildSlice,Sem.run_bind,run_underlying hu,Result.andThen_ok,hsz,WN hnle,WN hne,hv,Sem.run_pure,e1,f1];simp [newRow]
   ·simp only [XR,VR,RC];refine ⟨_,_,_,rfl,hlen.symm,bW _,?_,.inr ⟨w.heap.size,0,sz,rfl,?_,hpos,?_⟩⟩
    ·have:len≤len*sz:=yR _ hpos;unfold maxLen;omega
    ·rw [hI];exact .inr ⟨bW _,by simp⟩
    ·refine sX _ _ _ _ fun i x hx=>⟨cT us.toList (i*sz) sz,hseg i x hx,jM n2.on.keeps x _ ((l1.2 i x hx).2 hpu),At.of_cells (sW w _) (by rw [hseg i x hx];simp [cT])⟩
  ·cases h
theorem mh (hr:Rel E nt g F H a.tmps w) {t e:TypeId} {pu np:Bool} {sz bytes:Nat} {z:PV} {x y:Operand} {x' y':Opd} (ho:o.op=.makeSlice t x y) (hu:P.underlying t=some (.slice e)) (hs:ydo P e=some sz) (hby:pN P e=some bytes) (hz:ycL P e np=some (pu,z))
  (hx:opd x=some x') (hy:opd y=some y') {call} (h:yas E call F H (.mkSl pu sz bytes z x' y')=some out) :
  bS E nt g F H a.tmps w out ((execOp a.eval o).run P w):=by
 obtain ⟨hsz,hpos,i0,hi0,hi0s⟩:=mO (P:=P) (w:=w) hs;obtain ⟨v,hv,hzr⟩:=Gm (P:=P) hz w;have hvs:=DD hz hs hv;have hbytes:i0.bytes=bytes:=by
  unfold pN at hby;rw [hi0] at hby;cases hby;rfl
 simp only [yas] at h;split at h
 ·rename_i l c hl hc;split at h
  ·rename_i hb;rw [cW h];obtain ⟨k1,e1,_⟩:=oU hr hx hl;obtain ⟨k2,e2,_⟩:=oU hr hy hc;obtain ⟨z1,z2⟩:=hzr g H;have hlie:=AZ (n:=c.toNat) (pu:=pu) hvs hpos z1 z2;have hroom:(c.toNat+64)*(bytes+1)≤35184372088832:=hb.2.2;have hc1:c.toNat≤35184372088832:=by
    have:c.toNat+64≤(c.toNat+64)*(bytes+1):=yR _ (by omega);omega
   have hcb:c.toNat*bytes≤35184372088832:=by refine jT ?_ hroom;exact wR (by omega) (by omega)
   have wl:i64.wrap l=l:=by simp [IntKind.wrap,IntKind.signed,IntKind.bits];omega
   have wc:i64.wrap c=c:=by simp [IntKind.wrap,IntKind.signed,IntKind.bits];omega
   have hbc:(bytes:Int)*c≤35184372088832:=by
    have e3:((c.toNat*bytes:Nat):Int)=bytes*c:=by rw [uU,Int.toNat_of_nonneg (by omega),Int.mul_comm]
    rw [← e3];omega
   obtain ⟨g2,r2,n2,hρ⟩:=hr.newBlk (hb:=⟨false,pu,sz,replicate c.toNat z⟩) (cs:=(Array.range (c.toNat*sz)).map (v.cells[· % v.cells.size]!)) (T:=e) hpos rfl (by simp)
    (fun i x hx=>by
     have hi:i<c.toNat:=by
      rcases qA4 i c.toNat with h|h
      ·exact h
      ·simp only at hx;rw [jI (by simp;omega)] at hx;cases hx
     have hsg:(cT ((Array.range (c.toNat*sz)).map (v.cells[· % v.cells.size]!)).toList (i*sz) sz).length=sz:=by rw [JF hvs hpos i hi];simpa using hvs
     exact ⟨_,hsg,(hlie.2 i x hx).1,by rw [hsg];rfl⟩)
    (fun hpu i x hx=>by
     have hi:i<c.toNat:=by
      rcases qA4 i c.toNat with h|h
      ·exact h
      ·simp only at hx;rw [jI (by simp;omega)] at hx;cases hx
     have hsg:(cT ((Array.range (c.toNat*sz)).map (v.cells[· % v.cells.size]!)).toList (i*sz) sz).length=sz:=by rw [JF hvs hpos i hi];simpa using hvs
     exact ⟨_,hsg,(hlie.2 i x hx).2 hpu,by rw [hsg];rfl⟩)
   refine ⟨.slice (some ⟨w.heap.size,0,none⟩) l.toNat c.toNat,_,g2,.inl ?_,n2,r2,?_⟩
   ·have cnd:((decide (c<0)||decide ((i0.bytes:Int)*c>2 ^ 48)||decide (l<0))||decide (l>c))=false:=by
     rw [hbytes];simp;omega
    by_cases hc0:c.toNat*sz=0
    ·simp only [execOp,ho,Instr.makeSlice,Sem.run_bind,run_underlying hu,Result.andThen_ok,e1,e2,asInt,asIntOf,Sem.run_pure,typeInfo,run_program,hi0,wl,wc,cnd,gE,if_false,run_askRoom,sizeOf,hi0s,hc0,if_true,newRow,run_newObj];simp;rw [Gn,Gn]
    ·simp only [execOp,ho,Instr.makeSlice,Sem.run_bind,run_underlying hu,Result.andThen_ok,e1,e2,asInt,asIntOf,Sem.run_pure,typeInfo,run_program,hi0,wl,wc,cnd,gE,if_false,run_askRoom,sizeOf,hi0s,hc0,hv,newRow,run_newObj];simp
   ·simp only [XR,VR];refine ⟨⟨false,pu,sz,replicate c.toNat z⟩,_,c.toNat,by simp,by simp,rfl,by omega,?_,fun c0 e0=>by cases e0;rfl,fun _=>?_⟩
    ·unfold maxLen;omega
    ·exact ⟨w.heap.size,0,hρ,by omega,fun _=>by simp,by simp [mK],_,e,sW w _,by simp⟩
  ·cases h
 ·cases h
theorem mi {loc:List Nat} {dst:Option Nat} {pu:Bool} {sz by_ n:Nat} {l c:Opd} (h:mkDL loc dst pu sz by_ l c=some n):∃ m:Int,l=.c (.int .i64 m)∧c=.c (.int .i64 m)∧pu=true∧0<m∧n=m.toNat∧n*sz≤2 ^ 24∧(n+64)*(by_+1)≤35184372088832:=by
 unfold mkDL at h;split at h
 ·split at h
  ·rename_i hc
   cases h
   obtain ⟨_,h2,h3,rfl,h5,h6⟩:=hc;exact ⟨_,rfl,rfl,h2,h3,rfl,h5,h6⟩
  ·cases h
 ·cases h
theorem mj (hr:Rel E nt g F H a.tmps w) {t e:TypeId} {pu np:Bool} {sz bytes n:Nat} {z:PV} {x y:Operand} {x' y':Opd} {loc:List Nat} {dst:Option Nat} (ho:o.op=.makeSlice t x y) (hu:P.underlying t=some (.slice e)) (hs:ydo P e=some sz) (hby:pN P e=some bytes) (hz:ycL P e np=some (pu,z))
  (hx:opd x=some x') (hy:opd y=some y') (hm:mkDL loc dst pu sz bytes x' y'=some n) {call} (h:yas E call F H (.bD sz z n [])=some out) :
  bS E nt g F H a.tmps w out ((execOp a.eval o).run P w):=by
 obtain ⟨m,rfl,rfl,rfl,hm0,rfl,h16,hroom⟩:=mi hm;obtain ⟨hsz,hpos,i0,hi0,hi0s⟩:=mO (P:=P) (w:=w) hs;obtain ⟨v,hv,hzr⟩:=Gm (P:=P) hz w;have hvs:=DD hz hs hv;have hbytes:i0.bytes=bytes:=by
  unfold pN at hby;rw [hi0] at hby;cases hby;rfl
 have hm1:m.toNat≠0:=by omega
 simp only [yas,WN hm1,yhl] at h;rw [cW h];obtain ⟨k1,e1,_⟩:=oU hr hx (show yey E F (.c (.int .i64 m))=some m from rfl);obtain ⟨k2,e2,_⟩:=oU hr hy (show yey E F (.c (.int .i64 m))=some m from rfl);obtain ⟨z1,z2⟩:=hzr g H;have hlie:=AZ (n:=m.toNat) (pu:=true) hvs hpos z1 z2;have hc1:m.toNat≤35184372088832:=by
  have:m.toNat+64≤(m.toNat+64)*(bytes+1):=yR _ (by omega);omega
 have hcb:m.toNat*bytes≤35184372088832:=by refine jT ?_ hroom;exact wR (by omega) (by omega)
 have wl:i64.wrap m=m:=by simp [IntKind.wrap,IntKind.signed,IntKind.bits];omega
 have hbc:(bytes:Int)*m≤35184372088832:=by
  have e3:((m.toNat*bytes:Nat):Int)=bytes*m:=by rw [uU,Int.toNat_of_nonneg (by omega),Int.mul_comm]
  rw [← e3];omega
 have hne:¬m.toNat*sz=0:=by
  intro e0;rcases Nat.mul_eq_zero.1 e0 with h1 | h1
  ·exact hm1 h1
  ·omega
 obtain ⟨g2,r2,n2,_,_,hI⟩:=hr.grew (w':=w.alloc (.cells ((Array.range (m.toNat*sz)).map (v.cells[· % v.cells.size]!)) e)) ((Bel.refl _ _).alloc (bW _) _);refine ⟨.slice (some ⟨w.heap.size,0,none⟩) m.toNat m.toNat,_,g2,.inl ?_,n2,r2,?_⟩
 ·have cnd:((decide (m<0)||decide ((i0.bytes:Int)*m>2 ^ 48)||decide (m<0))||decide (m>m))=false:=by
   rw [hbytes];simp;omega
  simp only [execOp,ho,Instr.makeSlice,Sem.run_bind,run_underlying hu,Result.andThen_ok,e1,e2,asInt,asIntOf,Sem.run_pure,typeInfo,run_program,hi0,wl,cnd,gE,if_false,run_askRoom,sizeOf,hi0s,hne,hv,newRow,run_newObj];simp
 ·simp only [XR,VR,RC];refine ⟨_,_,_,rfl,by simp,bW _,?_,.inr ⟨w.heap.size,0,sz,rfl,?_,hpos,?_⟩⟩
  ·unfold maxLen;omega
  ·rw [hI];exact .inr ⟨bW _,by simp⟩
  ·refine sX _ _ _ _ fun i x hx=>?_
   have hi:i<m.toNat:=by
    rcases qA4 i m.toNat with h|h
    ·exact h
    ·rw [jI (by simp;omega)] at hx;cases hx
   have hsg:(cT ((Array.range (m.toNat*sz)).map (v.cells[· % v.cells.size]!)).toList (i*sz) sz).length=sz:=by rw [JF hvs hpos i hi];simpa using hvs
   exact ⟨_,hsg,jM n2.on.keeps x _ ((hlie.2 i x hx).2 rfl),At.of_cells (sW w _) (by rw [hsg];simp [cT])⟩
theorem Ba {α:Type} {l:List α} {i:Nat} {x:α} (h:l[i]?=some x):i<l.length:=by
 rcases qA4 i l.length with h1|h1
 ·exact h1
 ·rw [jI h1] at h;cases h
theorem DE {x:PV} (h:x.one=true):x.cells=[x]∧jK x.cells=true:=by
 cases x<;>simp [PV.one] at h<;>simp [PV.cells,jK,PV.one]
theorem Xw {row row' p:PV} {off sz:Nat} {cur us:List Value} (hrow:bA g H w row cur) (h:yjZ row off sz p=some row') (hp:bM g H w p.cells us) :
  bA g H w row' (eJ cur off us)∧us.length=sz∧off+us.length≤cur.length∧jK p.cells=true:=by
 have hul:=rG _ _ hp;have scalar:row.one=true→off=0∧sz=1∧p.one=true→row'=p→bA g H w row' (eJ cur off us)∧us.length=sz∧off+us.length≤cur.length∧jK p.cells=true:=by
  rintro ho ⟨rfl,rfl,hpo⟩ rfl;obtain ⟨e1,e2⟩:=DE hpo;have hcl:=JD hrow;rw [(DE ho).1] at hcl;rw [e1] at hul hp;simp only [lD] at hul hcl;simp only [bM] at hp;obtain ⟨v,vr,rfl,_,hv,rfl⟩:=hp;refine ⟨?_,rfl,by simp [hcl],e2⟩;have es:eJ cur 0 [v]=[v]:=by
   match cur,hcl with
   | [c],_=>simp [eJ]
  rw [es]
  cases row' <;> simp [PV.one] at hpo<;>simp only [bA]<;>exact ⟨rfl,v,rfl,hv⟩
 unfold yjZ at h;split at h
 ·rename_i cs;split at h
  ·rename_i hc
   cases h
   simp only [bA] at hrow ⊢;have hl:=rG _ _ hrow;refine ⟨?_,by omega,by omega,hc.2.2⟩;have:=NE (off:=off) (n:=off+sz) hrow hp;simpa [eJ,show us.length=sz from by omega] using this
  ·cases h
 ·cases h
 ·rename_i h1 h2;split at h
  ·rename_i hc
   cases h
   refine scalar ?_ hc rfl
   cases row<;>simp [PV.one]
   ·exact absurd rfl (h1 _)
   ·exact absurd rfl (h2 _)
  ·cases h
theorem NI {I:Nat→Prop} {l1 l2:List PV} {v1 v2:List Value} (h1:ya5 I w l1 v1) (h2:ya5 I w l2 v2):ya5 I w (l1++l2) (v1++v2):=by
 induction l1 generalizing v1 with
 | nil=>simp only [ya5] at h1;subst h1;simpa using h2
 | cons x r ih =>simp only [ya5] at h1;obtain ⟨v,vr,rfl,o,h,h'⟩:=h1;simp only [wO,ya5];exact ⟨v,vr++v2,rfl,o,h,ih h'⟩
theorem Xx {I:Nat→Prop}:∀ (n:Nat) (l:List PV) (vs:List Value),ya5 I w l vs→ya5 I w (l.drop n) (vs.drop n)
 | 0,l,vs,h=>by simpa using h
 | n+1,[],vs,h=>by simp only [ya5] at h;subst h;simp [ya5]
 | n+1,x::r,vs,h=>by simp only [ya5] at h;obtain ⟨v,vr,rfl,o,h,h'⟩:=h;simpa using Xx n r vr h'
theorem Xy {I:Nat→Prop}:∀ (n:Nat) (l:List PV) (vs:List Value),ya5 I w l vs→ya5 I w (l.take n) (vs.take n)
 | 0,l,vs,h=>by simp [ya5]
 | n+1,[],vs,h=>by simp only [ya5] at h;subst h;simp [ya5]
 | n+1,x::r,vs,h=>by simp only [ya5] at h;obtain ⟨v,vr,rfl,o,h,h'⟩:=h;simp only [List.take_succ_cons,ya5];exact ⟨v,vr.take n,rfl,o,h,Xy n r vr h'⟩
theorem mn {I:Nat→Prop} {x:PV} {vs:List Value} (h:RC I w x vs) (ho:jK x.cells=true):ya5 I w x.cells vs:=by
 cases x with
 | agg cs=>simpa only [RC,PV.cells] using h
 | tup ps=>simp only [RC] at h
 | data rows =>have h':=h;simp only [RC] at h;obtain ⟨k,l,c,rfl,_⟩:=h;simp only [PV.cells,ya5];exact ⟨_,_,rfl,rfl,h',rfl⟩
 | bool b=>have h':=h;simp only [RC] at h;subst h;simp only [PV.cells,ya5];exact ⟨_,_,rfl,rfl,h',rfl⟩
 | int k n=>have h':=h;simp only [RC] at h;obtain ⟨rfl,_⟩:=h;simp only [PV.cells,ya5];exact ⟨_,_,rfl,rfl,h',rfl⟩
 | _=>simp only [RC] at h
theorem mo {I:Nat→Prop} {row row' p:PV} {off sz:Nat} {cur us:List Value} (hrow:RC I w row cur) (h:yjZ row off sz p=some row') (hp:RC I w p us):RC I w row' (eJ cur off us):=by
 unfold yjZ at h;have hul:=Gk hp;split at h
 ·rename_i cs;split at h
  ·rename_i hc
   cases h
   simp only [RC] at hrow ⊢;have:=NI (Xy off _ _ hrow) (NI (mn hp hc.2.2) (Xx (off+sz) _ _ hrow));simpa [eJ,show us.length=sz from by omega] using this
  ·cases h
 ·cases h
 ·rename_i h1 h2;split at h
  ·rename_i hc
   cases h
   obtain ⟨rfl,rfl,hpo⟩:=hc;have hcl:=Gk hrow;rw [(DE (x:=row) (by cases row<;>simp [PV.one];exact absurd rfl (h1 _);exact absurd rfl (h2 _))).1] at hcl;rw [(DE hpo).1] at hul;simp only [lD] at hul hcl;have es:eJ cur 0 us=us:=by
    match cur,hcl with
    | [c],_=>simp [eJ,hul]
   rw [es];exact hp
  ·cases h
theorem Xz {t:TypeId} {i:TypeInfo} {b o1:Nat} {v:Value} {cur:Array Value} {T:TypeId} (hi:P.info? t=some i) (hc:w.heap[b]?=some (.cells cur T (0,0))) (hs:v.cells.size=i.size) (hf:o1+v.cells.size≤cur.size) (h1:∀ u∈v.cells.toList,u.oneCell'=true) :
  (storeVar t ⟨b,o1,none⟩ v).run P w=.ok () (w.setRow b (eJ cur.toList o1 v.cells.toList).toArray):=by
 have:=run_storeCells_at P b o1 T v.cells.toList 0 cur w hc (by simp;omega) h1;simp only [uY,lX] at this;simp [storeVar,sizeOf,typeInfo,hi,hs,eJ] at this ⊢;exact this
theorem XA (hr:Rel E nt g F H a.tmps w) {t:TypeId} {i:TypeInfo} {x y:Operand} {x' y':Opd} (ho:o.op=.store t x y) (hi:P.info? t=some i) (hx:opd x=some x') (hy:opd y=some y') {call} (h:yas E call F H (.store i.size x' y')=some out) :
  bS E nt g F H a.tmps w out ((execOp a.eval o).run P w):=by
 simp only [yas] at h;split at h
 ·rename_i p hp;have hvp:=cS hr hy hp;split at h
  ·rename_i s off hev;obtain ⟨b,hb,he⟩:=mN hr hx hev;split at h
   ·rename_i row hrow;split at h
    ·rename_i row' hset
     cases h
     obtain ⟨b',hb',_,hnI,cur,T,hh,hrr⟩:=hr.frame s _ hrow;rw [hb] at hb';cases hb';have hone:jK p.cells=true:=by
      unfold yjZ at hset;split at hset
      ·split at hset
       ·rename_i hc;exact hc.2.2
       ·cases hset
      ·cases hset
      ·split at hset
       ·rename_i hc;exact (DE hc.2.2).2
       ·cases hset
     have hvc:=(AY hvp hone).1;obtain ⟨hr1,hl1,hl2,_⟩:=Xw hrr hset hvc;have hfit:off+(a.eval y).cells.size≤cur.size:=by simpa using hl2
     obtain ⟨r1,n1⟩:=hr.setBox (cs:=(eJ cur.toList off (a.eval y).cells.toList).toArray) hb hrow hh (by simp [rH hl2]) (by simpa using hr1);have hst:=Xz (P:=P) (t:=t) hi hh (by simpa using hl1) hfit (Jy _ _ hvc);refine ⟨undef,_,g,.inr ⟨?_,rfl⟩,n1,r1,trivial⟩;simp [execOp,ho,Instr.storeAt,he,Instr.sureAddr,hst]
    ·cases h
   ·cases h
  ·rename_i id ext k off hev;have hval:=mN hr hx hev;simp only [gR,VR] at hval;obtain ⟨hb0,ad,e1,hle,he,hcond⟩:=hval;split at h
   ·rename_i hb1 e2;rw [e1] at e2;cases e2;split at h
    ·rename_i q H1 hq;split at h
     ·rename_i hb2 e3;split at h
      ·rename_i hc;split at h
       ·rename_i row hrow;split at h
        ·rename_i row' hset
         cases h
         have hone:jK q.cells=true:=by
          unfold yjZ at hset;split at hset
          ·split at hset
           ·rename_i hc;exact hc.2.2
           ·cases hset
          ·cases hset
          ·split at hset
           ·rename_i hc;exact (DE hc.2.2).2
           ·cases hset
         obtain ⟨g1,r1,n1,b1,p1,row1,pure1⟩:=NH hr hvp hq hone;obtain ⟨hb3,e4,hz,hpu,hlen⟩:=n1.on.hext id hb0 e1;rw [e3] at e4;cases e4;have hsame:hb0.rows.length=ext:=by omega
         obtain ⟨b,o1,hρ,hk,hadd⟩:=hcond hsame;subst hadd;have hρ1:g1.ρ id=some (b,o1):=by rw [p1];exact hρ
         obtain ⟨b',o',hblk⟩:=r1.heap id hb2 e3;have hat:=hblk.at_;rw [hρ1] at hat;cases hat
         obtain ⟨cur,T,hh,hfit0⟩:=hblk.cells;obtain ⟨vs,hvl,hrr,hatv⟩:=vJ hb2.rows hb2.esz b o1 k row hblk.rows hrow;have hk2:k<hb2.rows.length:=Ba hrow;have hmul:k*hb2.esz+hb2.esz≤hb2.rows.length*hb2.esz:=by
          have:(k+1)*hb2.esz≤hb2.rows.length*hb2.esz:=gK _ hk2
          rwa [dC,iZ] at this
         have hvc:=zP row1;obtain ⟨hr1,hl1,hl2,_⟩:=Xw hrr hset hvc;have hal:(a.eval y).cells.size=i.size:=by simpa using hl1
         have hfit:o1+k*hb2.esz+off+(a.eval y).cells.toList.length≤cur.toList.length:=by simp at hl2 ⊢;omega
         have hsegk:cT cur.toList (o1+k*hb2.esz) hb2.esz=vs:=by have:=At.to_cells hh hatv;rw [hvl] at this;exact this
         have hsegs:∀ j y',(hb2.rows.set k row')[j]?=some y'→∃ us,us.length=hb2.esz∧bA g1 H1 w y' us∧(hb2.pu=true→RC g1.I w y' us)∧cT (eJ cur.toList (o1+k*hb2.esz+off) (a.eval y).cells.toList) (o1+j*hb2.esz) hb2.esz=us:=by
          intro j y' hj;rw [Gc] at hj
          by_cases ej:k=j
          ·subst ej;rw [WM rfl,WM hk2] at hj
           cases hj
           refine ⟨eJ vs off (a.eval y).cells.toList,by rw [rH hl2,hvl],hr1,fun hp=>?_,?_⟩
           ·obtain ⟨vs2,hv2,hrc2,hat2⟩:=oR hb2.rows hb2.esz b o1 k row (hblk.pure hp) hrow;have:vs2=vs:=by
             have e5:=At.to_cells hh hat2;rw [hv2] at e5;rw [← e5,← hsegk];rfl
            subst this;exact mo hrc2 hset (pure1 (by rw [← hpu];exact hp))
           ·rw [lm hfit (by omega) (by rw [hvl] at hl2;omega) (by simp;omega),hsegk];congr 1;omega
          ·rw [WN ej] at hj;obtain ⟨us,hu1,hu2,hu3⟩:=vJ hb2.rows hb2.esz b o1 j y' hblk.rows hj;refine ⟨us,hu1,hu2,fun hp=>?_,?_⟩
           ·obtain ⟨us2,hv2,hrc2,hat2⟩:=oR hb2.rows hb2.esz b o1 j y' (hblk.pure hp) hj;have:us2=us:=by
             have e5:=At.to_cells hh hat2;have e6:=At.to_cells hh hu3;rw [hv2] at e5;rw [hu1] at e6;rw [← e5,← e6]
            subst this;exact hrc2
           ·have hd:o1+j*hb2.esz+hb2.esz≤o1+k*hb2.esz+off∨o1+k*hb2.esz+off+(a.eval y).cells.toList.length≤o1+j*hb2.esz:=by
             rcases Nat.lt_or_gt_of_ne ej with h1|h1
             ·right;have:(k+1)*hb2.esz≤j*hb2.esz:=gK _ h1;rw [dC,iZ] at this;rw [hvl] at hl2;omega
             ·left;have:(j+1)*hb2.esz≤k*hb2.esz:=gK _ h1;rw [dC,iZ] at this;omega
            rw [JB hfit hd];have e6:=At.to_cells hh hu3;rw [hu1] at e6;exact e6
         obtain ⟨r2,n2⟩:=r1.setBlk (cs:=(eJ cur.toList (o1+k*hb2.esz+off) (a.eval y).cells.toList).toArray) (rows':=hb2.rows.set k row') e3 hc.2 hρ1 hh (by simp [rH hfit]) (by simp) (by simp [rH hfit];omega)
          (fun j y' hj=>by
           obtain ⟨us,h1,h2,h3,h4⟩:=hsegs j y' hj;exact ⟨us,h1,h2,by rw [h1];exact h4⟩)
          (fun hp j y' hj=>by
           obtain ⟨us,h1,h2,h3,h4⟩:=hsegs j y' hj;exact ⟨us,h1,h3 hp,by rw [h1];exact h4⟩)
         have hst:=Xz (P:=P) (t:=t) (o1:=o1+k*hb0.esz+off) hi hh hal (by rw [← hz];simpa using hfit) (Jy _ _ hvc);refine ⟨undef,_,g1,.inr ⟨?_,rfl⟩,n1.trans n2,r2,trivial⟩;rw [hz];simp [execOp,ho,Instr.storeAt,he,Instr.sureAddr,hst]
        ·cases h
       ·cases h
      ·cases h
     ·cases h
    ·cases h
   ·cases h
  ·cases h
 ·cases h
theorem At.append {b o:Nat} {u v:List Value} (h:At w b o u) (k:At w b (o+u.length) v):At w b o (u++v):=by
 intro j x hj;rw [pF] at hj;split at hj
 ·exact h j x hj
 ·have:=k (j-u.length) x hj
  rwa [show o+u.length+(j-u.length)=o+j from by omega] at this
theorem gC.nil {pu:Bool} {esz:Nat}:gC g H w pu esz [] []:=⟨by simp,fun i x h=>by simp at h⟩
theorem gC.append {pu:Bool} {esz:Nat} {r1 r2:List PV} {c1 c2 rest:List Value} (h1:gC g H w pu esz r1 c1) (e1:c1.length=r1.length*esz) (h2:gC g H w pu esz r2 c2):gC g H w pu esz (r1++r2) (c1++c2++rest):=by
 refine ⟨?_,fun i x hx=>?_⟩
 ·simp only [dM,dC];have:=h2.1;omega
 ·rw [pF] at hx;split at hx
  ·rename_i hi;have hmul:i*esz+esz≤r1.length*esz:=by
    have:(i+1)*esz≤r1.length*esz:=gK _ hi
    rwa [dC,iZ] at this
   have e:cT (c1++c2++rest) (i*esz) esz=cT c1 (i*esz) esz:=by simp only [cT];rw [lX,List.drop_append_of_le_length (by omega),List.take_append_of_le_length (by rw [kD];omega)]
   rw [e];exact h1.2 i x hx
  ·rename_i hi;have hi2:i-r1.length<r2.length:=Ba hx;have hmul:(i-r1.length)*esz+esz≤r2.length*esz:=by
    have:(i-r1.length+1)*esz≤r2.length*esz:=gK _ hi2
    rwa [dC,iZ] at this
   have e:cT (c1++c2++rest) (i*esz) esz=cT c2 ((i-r1.length)*esz) esz:=by
    have h3:i*esz=c1.length+(i-r1.length)*esz:=by rw [e1,← dC];congr 1;omega
    simp only [cT];rw [lX,h3,List.drop_append,Nat.add_sub_cancel_left,pD (by omega),pH];rw [List.drop_append_of_le_length (by have:=h2.1;omega),List.take_append_of_le_length (by rw [kD];have:=h2.1;omega)]
   rw [e];exact h2.2 _ x hx
theorem gC.one {pu:Bool} {esz:Nat} {rows:List PV} {cells:List Value} (hz:0<esz) (h:gC g H w pu esz rows cells) (e:cells.length=rows.length*esz):∀ u∈cells,u.oneCell'=true:=by
 intro u hu;obtain ⟨j,hj⟩:=List.getElem?_of_mem hu;have hlt:=Ba hj;have hd:j/esz<rows.length:=(Nat.div_lt_iff_lt_mul hz).2 (by omega);have hr:=(h.2 (j/esz) rows[j/esz] (dU hd)).1;have hm:j%esz<esz:=Nat.mod_lt _ hz;have hin:(cT cells (j/esz*esz) esz)[j%esz]?=some u:=by
  rw [rI,WM hm,Nat.div_add_mod'];exact hj
 exact Jy _ _ (zP hr) u (FX hin)
theorem JG (esz b:Nat):∀ (rows:List PV) (o:Nat),eI g H w rows esz b o→∃ news,news.length=rows.length*esz∧At w b o news
 | [],o,_=>⟨[],by simp,fun j u h=>by simp at h⟩
 | x::r,o,h=>by simp only [eI] at h;obtain ⟨⟨vs,h1,h2,h3⟩,h4⟩:=h;obtain ⟨news,h5,h6⟩:=JG esz b r (o+esz) h4;refine ⟨vs++news,by rw [dM,h5,kI,dC];omega,h3.append (by rw [h1];exact h6)⟩
theorem NJ {b o p n:Nat} {news vs:List Value} (h1:At w b o news) (h2:At w b (o+p) vs) (hl:vs.length=n) (hle:p+n≤news.length):cT news p n=vs:=by
 apply qV;intro j;rw [rI]
 by_cases hj:j<n
 ·rw [WM hj];have e1:news[p+j]?=some news[p+j]:=dU (by omega);have e2:vs[j]?=some vs[j]:=dU (by omega);have k1:=h1 _ _ e1;have k2:=h2 _ _ e2;rw [show o+(p+j)=o+p+j from by omega] at k1;rw [k1] at k2;rw [e1,e2];exact k2
 ·rw [WN hj,jI (by omega)]
end
end Go.Pf
