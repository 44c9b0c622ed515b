/- The framework, part 27: tables of calls that are answered already; what the program's intrinsics answer; a statement without arguments. -/
import Derived.Test.YthlajkcfbpfmdaaFw26
import Derived.RecoverIn
import Derived.Laws.Externs
import Derived.KernelRfl
namespace Go.Pf
open Go Go.RowKit

mutual
def beqV : PV → PV → Bool
  | .bool a, .bool b => a == b
  | .int k a, .int l b => decide (k = l) && decide (a = b)
  | .nilp, .nilp => true
  | .nils, .nils => true
  | .emp, .emp => true
  | .nilf, .nilf => true
  | .data a, .data b => beqL a b
  | .agg a, .agg b => beqL a b
  | .tup a, .tup b => beqL a b
  | _, _ => false
def beqL : List PV → List PV → Bool
  | [], [] => true
  | x :: a, y :: b => beqV x y && beqL a b
  | _, _ => false
end

mutual
theorem beqV_eq : ∀ (x y : PV), beqV x y = true → x = y
  | .bool a, y, h => by cases y <;> simp [beqV] at h; rw [h]
  | .int k a, y, h => by cases y <;> simp [beqV] at h; rw [h.1, h.2]
  | .nilp, y, h => by cases y <;> simp [beqV] at h; rfl
  | .nils, y, h => by cases y <;> simp [beqV] at h; rfl
  | .emp, y, h => by cases y <;> simp [beqV] at h; rfl
  | .nilf, y, h => by cases y <;> simp [beqV] at h; rfl
  | .data a, y, h => by cases y <;> simp only [beqV, Bool.false_eq_true] at h; rw [beqL_eq _ _ h]
  | .agg a, y, h => by cases y <;> simp only [beqV, Bool.false_eq_true] at h; rw [beqL_eq _ _ h]
  | .tup a, y, h => by cases y <;> simp only [beqV, Bool.false_eq_true] at h; rw [beqL_eq _ _ h]
  | .ptr .., y, h => by cases y <;> simp [beqV] at h
  | .eptr .., y, h => by cases y <;> simp [beqV] at h
  | .own .., y, h => by cases y <;> simp [beqV] at h
  | .sub .., y, h => by cases y <;> simp [beqV] at h
  | .fn .., y, h => by cases y <;> simp [beqV] at h
theorem beqL_eq : ∀ (x y : List PV), beqL x y = true → x = y
  | [], y, h => by cases y <;> simp [beqL] at h; rfl
  | x :: a, y, h => by
    cases y with
    | nil => simp [beqL] at h
    | cons z b =>
      simp only [beqL, Bool.and_eq_true] at h
      rw [beqV_eq _ _ h.1, beqL_eq _ _ h.2]
end

/-- A table: the function's number, the arguments, the answer. -/
abbrev Tab := List (Nat × List PV × PV)

def lookT : Tab → Nat → List PV → Option PV
  | [], _, _ => none
  | (k, as, r) :: t, n, bs => bif Nat.beq k n && beqL as bs then some r else lookT t n bs

theorem lookT_mem : ∀ (t : Tab) (n : Nat) (as : List PV) (r : PV), lookT t n as = some r → (n, as, r) ∈ t
  | [], _, _, _, h => by simp [lookT] at h
  | (k, bs, q) :: t, n, as, r, h => by
    simp only [lookT] at h
    cases hc : (Nat.beq k n && beqL bs as) with
    | true =>
      rw [hc] at h
      simp only [cond_true, Option.some.injEq] at h
      simp only [Bool.and_eq_true] at hc
      have h1 := Nat.eq_of_beq_eq_true hc.1
      have h2 := beqL_eq _ _ hc.2
      subst h1; subst h2; subst h; simp
    | false =>
      rw [hc] at h
      simp only [cond_false] at h
      exact List.mem_cons_of_mem _ (lookT_mem t n as r h)

def Env.plus (E : Env) (t : Tab) : Env :=
  { E with sum := fun n as => match lookT t n as with | some r => some r | none => E.sum n as }

/-- Each entry of a table is what the evaluator answers. -/
def checksT (E : Env) (fuel : Nat) : Tab → Bool
  | [] => true
  | (n, as, r) :: t => (match topV E fuel n as with | some q => beqV q r | none => false) && checksT E fuel t

section
variable {P : Program} {E : Env}

theorem checksT_ok (hE : EnvOk P E) (hm : P.follows .mixedOrders = true) {fuel : Nat} :
    ∀ (t : Tab), checksT E fuel t = true → ∀ n as r, (n, as, r) ∈ t → SumOk P E.glob n as r
  | [], _, _, _, _, h => by simp at h
  | (k, bs, q) :: t, hc, n, as, r, h => by
    simp only [checksT, Bool.and_eq_true] at hc
    rcases List.mem_cons.1 h with h | h
    · cases h
      obtain ⟨h1, _⟩ := hc
      split at h1
      · rename_i x hx
        rw [beqV_eq _ _ h1] at hx
        exact sum_top hE hm hx
      · cases h1
    · exact checksT_ok hE hm t hc.2 n as r h

theorem plus_ok (hE : EnvOk P E) (hm : P.follows .mixedOrders = true) {fuel : Nat} {t : Tab} (h : checksT E fuel t = true) : EnvOk P (E.plus t) where
  sum := by
    intro n as r e
    simp only [Env.plus] at e
    split at e
    · rename_i q hq
      cases e
      exact checksT_ok hE hm t h n as _ (lookT_mem t n as _ hq)
    · exact hE.sum n as r e
  fns := hE.fns
  eff := EnvOk.eff' (E := E) (E' := E.plus t) rfl rfl rfl hE.eff
  dn := hE.dn
  top := hE.top
  yl := EnvOk.yl' (E' := E.plus t) hE rfl rfl rfl rfl

/-- The functions' table. -/
def lookF : List (Nat × AFn) → Nat → Option AFn
  | [], _ => none
  | (k, a) :: r, n => bif Nat.beq k n then some a else lookF r n

def AllOk (P : Program) : List (Nat × AFn) → Prop
  | [] => True
  | (n, a) :: r => (∃ f loc fg, P.funcs[n]? = some f ∧ compFn P loc fg f = some a) ∧ AllOk P r

theorem lookF_ok : ∀ (l : List (Nat × AFn)), AllOk P l → ∀ n a, lookF l n = some a → ∃ f loc fg, P.funcs[n]? = some f ∧ compFn P loc fg f = some a
  | [], _, _, _, h => by simp [lookF] at h
  | (k, b) :: r, hl, n, a, h => by
    simp only [AllOk] at hl
    simp only [lookF] at h
    cases hc : Nat.beq k n with
    | true =>
      rw [hc] at h
      simp only [cond_true, Option.some.injEq] at h
      have := Nat.eq_of_beq_eq_true hc
      subst this; subst h
      exact hl.1
    | false =>
      rw [hc] at h
      exact lookF_ok r hl.2 n a (by simpa using h)

theorem lookF_app (l m : List (Nat × AFn)) (hl : AllOk P l) (hm : AllOk P m) : AllOk P (l ++ m) := by
  induction l with
  | nil => exact hm
  | cons x r ih =>
    obtain ⟨n, a⟩ := x
    simp only [AllOk, List.cons_append] at hl ⊢
    exact ⟨hl.1, ih hl.2⟩

def memN : List Nat → Nat → Bool
  | [], _ => false
  | k :: r, n => bif Nat.beq k n then true else memN r n

/-! The intrinsics. -/

def u64 (n : Nat) : PV := .int .u64 (n : Int)

/-- Add64 and Sub64, by their numbers. -/
def sumC (add sub : Nat) (n : Nat) (as : List PV) : Option PV :=
  match as with
  | [.int .u64 a, .int .u64 b, .int .u64 c] =>
    bif Nat.beq n add && Nat.ble c.toNat 1 then some (.tup [u64 ((a.toNat + b.toNat + c.toNat) % 18446744073709551616), u64 ((a.toNat + b.toNat + c.toNat) / 18446744073709551616)])
    else bif Nat.beq n sub && Nat.ble c.toNat 1 then some (.tup [u64 ((a.toNat + 18446744073709551616 - b.toNat - c.toNat) % 18446744073709551616), u64 (bif Nat.ble (b.toNat + c.toNat) a.toNat then 0 else 1)])
    else none
  | _ => none

def sub64E : Array Value → Sem Value := fun args => do
  let (x, y, b) ← Extern.MathBitsCarry.three "Sub64" args
  pure (Extern.MathBitsCarry.pair ((x + Extern.MathBitsCarry.m64 - y - b) % Extern.MathBitsCarry.m64) (if x < y + b then 1 else 0))

theorem run_sub64E (x y : Int) (b : Nat) (hb : b ≤ 1) (w : World) :
    (sub64E #[.int .u64 x, .int .u64 y, .int .u64 b]).run P w =
      .ok (.tuple #[.int .u64 (((x.toNat + 18446744073709551616 - y.toNat - b) % 18446744073709551616 : Nat) : Int), .int .u64 ((if x.toNat < y.toNat + b then 1 else 0 : Nat) : Int)]) w := by
  have : b = 0 ∨ b = 1 := by omega
  rcases this with rfl | rfl <;> rfl

theorem run_add64E (x y : Int) (b : Nat) (hb : b ≤ 1) (w : World) :
    (add64Entry #[.int .u64 x, .int .u64 y, .int .u64 b]).run P w =
      .ok (.tuple #[.int .u64 (((x.toNat + y.toNat + b) % 18446744073709551616 : Nat) : Int), .int .u64 (((x.toNat + y.toNat + b) / 18446744073709551616 : Nat) : Int)]) w := by
  have : b = 0 ∨ b = 1 := by omega
  rcases this with rfl | rfl <;> rfl

theorem three_ints {I : Nat → Prop} {w : World} {a b c : Int} {vs : List Value} (h : VPs I w [.int .u64 a, .int .u64 b, .int .u64 c] vs) : vs = [.int .u64 a, .int .u64 b, .int .u64 c] := by
  simp only [VPs, VP1, RC, List.cons.injEq, and_true] at h
  obtain ⟨v, r, rfl, ⟨rfl, _⟩, v2, r2, rfl, ⟨rfl, _⟩, v3, r3, rfl, ⟨rfl, _⟩, rfl⟩ := h
  rfl

/-- A function without a body that the model's table answers. -/
structure IsExtern (P : Program) (f : FuncId) (e : Array Value → Sem Value) : Prop where
  h : ∃ fn, P.funcs[f]? = some fn ∧ (fn.name == "runtime.NumGoroutine") = false ∧ fn.body.isNone = true ∧ Extern.findNext fn = none ∧ Extern.find fn = some e

theorem IsExtern.run {f : FuncId} {e : Array Value → Sem Value} (h : IsExtern P f e) (args : Array Value) (w : World) : (callFunc f args).run P w = ((e args).run P w).andThen fun v w' => .ok (.value v) w' := by
  obtain ⟨fn, h1, h2, h3, h4, h5⟩ := h.h
  exact run_callFunc_extern h1 h2 h3 h4 h5 args w

theorem inK_u64 (n : Nat) (h : n < 18446744073709551616) : inK .u64 (n : Int) := by
  have h0 : IntKind.u64.min = 0 := by decide
  have h1 : IntKind.u64.max = 18446744073709551615 := by decide
  exact ⟨by rw [h0]; omega, by rw [h1]; omega⟩

theorem sumOk_pair {G : Nat → Option PV} {f : FuncId} {as : List PV} {a b : Nat} (ha : a < 18446744073709551616) (hb : b < 18446744073709551616)
    (h : ∀ (I : Nat → Prop) (w : World) (vs : List Value), VPs I w as vs → (callFunc f vs.toArray).run P w = .ok (.value (.tuple #[.int .u64 (a : Int), .int .u64 (b : Int)])) w) : SumOk P G f as (.tup [u64 a, u64 b]) := by
  intro I w vs _ _ hv
  unfold CallR
  rw [h I w vs hv]
  refine ⟨Bel.refl _ _, ?_⟩
  simp only [VP, VPs, VP1, RC, u64]
  exact ⟨_, rfl, _, _, rfl, ⟨rfl, inK_u64 a ha⟩, _, _, rfl, ⟨rfl, inK_u64 b hb⟩, rfl⟩

theorem sumC_ok {G : Nat → Option PV} {add sub : Nat} (ha : IsExtern P add add64Entry) (hs : IsExtern P sub sub64E) : ∀ n as r, sumC add sub n as = some r → SumOk P G n as r := by
  intro n as r h
  unfold sumC at h
  split at h
  · rename_i a b c
    have key : ∀ (x y : Int) (I : Nat → Prop) (w : World) (vs : List Value), VPs I w [.int .u64 a, .int .u64 b, .int .u64 c] vs → a.toNat < 18446744073709551616 ∧ b.toNat < 18446744073709551616 ∧ 0 ≤ c := by
      intro x y I w vs hv
      simp only [VPs, VP1, RC, inK] at hv
      obtain ⟨v, r, -, ⟨-, h1⟩, v2, r2, -, ⟨-, h2⟩, v3, r3, -, ⟨-, h3⟩, -⟩ := hv
      have e1 : IntKind.u64.max = 18446744073709551615 := by decide
      have e0 : IntKind.u64.min = 0 := by decide
      rw [e1] at h1 h2; rw [e0] at h3
      exact ⟨by omega, by omega, h3.1⟩
    cases h1 : (Nat.beq n add && Nat.ble c.toNat 1) with
    | true =>
      rw [h1] at h
      simp only [cond_true, Option.some.injEq] at h
      simp only [Bool.and_eq_true] at h1
      have e := Nat.eq_of_beq_eq_true h1.1
      have hc := Nat.le_of_ble_eq_true h1.2
      subst e; subst h
      intro I w vs hI hgl hv
      obtain ⟨la, lb, -⟩ := key 0 0 I w vs hv
      refine sumOk_pair (Nat.mod_lt _ (by omega)) (by omega) (fun I w vs hv => ?_) I w vs hI hgl hv
      have h0 := (key 0 0 I w vs hv).2.2
      have ec : c = (c.toNat : Int) := by omega
      rw [three_ints hv, ha.run, ec]
      exact congrArg (fun r => Result.andThen r fun v w' => Result.ok (Next.value v) w') (run_add64E a b c.toNat hc w)
    | false =>
      rw [h1] at h
      simp only [cond_false] at h
      cases h2 : (Nat.beq n sub && Nat.ble c.toNat 1) with
      | true =>
        rw [h2] at h
        simp only [cond_true, Option.some.injEq] at h
        simp only [Bool.and_eq_true] at h2
        have e := Nat.eq_of_beq_eq_true h2.1
        have hc := Nat.le_of_ble_eq_true h2.2
        subst e; subst h
        refine sumOk_pair (Nat.mod_lt _ (by omega)) (by cases Nat.ble (b.toNat + c.toNat) a.toNat <;> simp) (fun I w vs hv => ?_)
        have : (if a.toNat < b.toNat + c.toNat then 1 else 0 : Nat) = (bif Nat.ble (b.toNat + c.toNat) a.toNat then 0 else 1) := by
          cases hh : Nat.ble (b.toNat + c.toNat) a.toNat with
          | true => have := Nat.le_of_ble_eq_true hh; simp; omega
          | false =>
            have : ¬ (b.toNat + c.toNat ≤ a.toNat) := fun hle => by rw [Nat.ble_eq_true_of_le hle] at hh; cases hh
            simp; omega
        have h0 := (key 0 0 I w vs hv).2.2
        have ec : c = (c.toNat : Int) := by omega
        rw [← this, three_ints hv, hs.run, ec]
        exact congrArg (fun r => Result.andThen r fun v w' => Result.ok (Next.value v) w') (run_sub64E a b c.toNat hc w)
      | false => rw [h2] at h; cases h
  · cases h

/-- The environment to begin with. -/
def baseE (add sub : Nat) (tab : List (Nat × AFn)) (qui : List Nat) : Env := { glob := fun _ => none, sum := sumC add sub, fns := lookF tab, frz := fun _ => false, qui := memN qui }

theorem base_ok {add sub : Nat} {tab : List (Nat × AFn)} {qui : List Nat} (ha : IsExtern P add add64Entry) (hs : IsExtern P sub sub64E) (ht : AllOk P tab) : EnvOk P (baseE add sub tab qui) where
  sum := fun n as r h => sumC_ok ha hs n as r h
  fns := fun n fn h => lookF_ok tab ht n fn h
  eff := fun _ _ _ _ _ _ _ h => by cases h
  dn := fun _ h => by cases h
  top := fun _ _ => rfl
  yl := fun _ _ _ _ _ _ h => by cases h

/-- A statement without arguments. -/
theorem calls_closed {f : FuncId} {fn : Func} (hs : SumOk P (fun _ => none) f [] (.bool true)) (hf : P.funcs[f]? = some fn) (hn : (fn.name == "runtime.NumGoroutine") = false) (hb : fn.body.isSome = true) (w : World) :
    Calls P f #[] w fun e w' => e = .returned (.bool true) ∧ Below w.heap.size w w' := by
  have h := hs (fun _ => False) w [] (fun _ h => h.elim) (fun _ _ h => nomatch h) (by simp only [VPs])
  have e : (callFunc f ([] : List Value).toArray).run P w = .ok (.enter f #[]) w := by
    have h1 : fn.name ≠ "runtime.NumGoroutine" := by simpa using hn
    obtain ⟨c, hc⟩ := Option.isSome_iff_exists.1 hb
    simp [callFunc, hf, h1, hc]
  unfold CallR at h
  rw [e] at h
  refine Calls.mono h fun e w' he => ?_
  cases e with
  | returned v =>
    obtain ⟨h1, h2⟩ := he
    simp only [VP, VP1, RC, List.cons.injEq, and_true] at h2
    exact ⟨by rw [h2], h1.toBelow⟩
  | panicked ch => exact he.elim
  | outgrown => exact he.elim
end
/-- A function that only asks whether something was raised. -/
theorem noop_recover {P : Program} {f : FuncId} {fn : Func} {o0 o1 o2 o3 : Oper} {i0 i1 : Nat} {A : Code} {d0 d1 d2 t : Tmp} {c : Call} {ty ty2 : TypeId}
    (hf : P.funcs[f]? = some fn) (hname : fn.name ≠ "runtime.NumGoroutine") (hb : fn.body = some (.seq (.region i0 #[o0, o1] false) (.seq (.region i1 #[o2, o3] false) (.cond (.tmp t) A .skip)))) (hr : fn.results = #[])
    (a0 : o0.guard = none) (a1 : o0.dst = some d0) (a2 : o0.op = .call c) (a3 : c.callee = .builtin .recover)
    (b0 : o1.guard = none) (b1 : o1.dst = some d1) (b2 : o1.op = .assign (.tmp d0))
    (c0 : o2.guard = none) (c1 : o2.dst = some d2) (c2 : o2.op = .move (.tmp d1))
    (e0 : o3.guard = none) (e1 : o3.dst = some t) (e2 : o3.op = .binOp .neq ty (.tmp d2) (.const .nilIface) ty2)
    (l0 : d0 < fn.ntmps) (l1 : d1 < fn.ntmps) (l2 : d2 < fn.ntmps) (l3 : t < fn.ntmps) (hty : ∀ w, (Op.equal ty .nilIface .nilIface).run P w = .ok true w) (args : Array Value) (w : World) :
    (callFunc f args).run P w = .ok (.enter f args) w ∧ CallsDIn (Fc none) 0 P f args .returning w fun e u w' => u = .returning ∧ w' = w ∧ ∃ v, e = .returned v := by
  refine ⟨by simp [callFunc, hf, hname, hb], callsDIn_of_wpSIn hf hb trivial fun c₀ cs hu => ?_⟩
  have ab : ∀ (o : Oper) (w : World) (ρ : Operand → Value), ∀ g, o.about P w ρ = some g → (Fc none).fn g := fun _ _ _ _ _ => trivial
  have hrec : recoverD (c₀ :: cs) = none := by simp [recoverD, hu]
  have hsz : fn.ntmps ≤ (args ++ Array.replicate (fn.ntmps - args.size) undef).size := by simp; omega
  generalize args ++ Array.replicate (fn.ntmps - args.size) undef = tm at hsz
  have ev : ∀ (a : Act) (d : Tmp) (v : Value), d < a.tmps.size → (a.put (some d) v).eval (.tmp d) = v := fun a d v h => by
    show (a.tmps.setIfInBounds d v).getD d undef = v
    exact getD_set_self _ _ _ h
  have sz : ∀ (a : Act) (d : Tmp) (v : Value), (a.put (some d) v).tmps.size = a.tmps.size := fun a d v => by
    show (a.tmps.setIfInBounds d v).size = _
    simp
  refine wpSIn_seq (wpSIn_region ?_)
  show wpOpsSIn _ _ _ _ _ [0, 1] _ _ _
  rw [wpOpsSIn]
  simp only [show (#[o0, o1] : Array Oper)[0]? = some o0 from rfl]
  refine ⟨ab o0 w _, ?_⟩
  rw [if_pos (by simp [Region.wanted, a0])]
  have r0 : ∀ (ρ : Operand → Value), (execOp ρ o0).run P w = .ok .recover w := fun ρ => by
    simp [execOp, a2, resolve, a3, invoke, builtin]
  rw [r0]
  simp only [hrec, a1]
  rw [wpOpsSIn]
  simp only [show (#[o0, o1] : Array Oper)[1]? = some o1 from rfl]
  refine ⟨ab o1 w _, ?_⟩
  rw [if_pos (by simp [Region.wanted, b0])]
  have r1 : ∀ (ρ : Operand → Value), (execOp ρ o1).run P w = .ok (.value (ρ (.tmp d0))) w := fun ρ => by
    simp [execOp, b2]
  rw [r1]
  simp only [b1]
  rw [wpOpsSIn, ev _ _ _ (by exact Nat.lt_of_lt_of_le l0 hsz)]
  simp only [Exit.thenS]
  refine wpSIn_seq (wpSIn_region ?_)
  show wpOpsSIn _ _ _ _ _ [0, 1] _ _ _
  rw [wpOpsSIn]
  simp only [show (#[o2, o3] : Array Oper)[0]? = some o2 from rfl]
  refine ⟨ab o2 w _, ?_⟩
  rw [if_pos (by simp [Region.wanted, c0])]
  have r2 : ∀ (ρ : Operand → Value), (execOp ρ o2).run P w = .ok (.value (ρ (.tmp d1))) w := fun ρ => by
    simp [execOp, c2]
  rw [r2]
  simp only [c1]
  rw [ev _ _ _ (by rw [sz]; exact Nat.lt_of_lt_of_le l1 hsz)]
  rw [wpOpsSIn]
  simp only [show (#[o2, o3] : Array Oper)[1]? = some o3 from rfl]
  refine ⟨ab o3 w _, ?_⟩
  rw [if_pos (by simp [Region.wanted, e0])]
  have r3 : ∀ (ρ : Operand → Value), ρ (.tmp d2) = .nilIface → ρ (.const .nilIface) = .nilIface → (execOp ρ o3).run P w = .ok (.value (.bool false)) w := fun ρ h1 h2 => by
    simp [execOp, e2, h1, h2, eqGuard, binOp, hty w]
  rw [r3 _ (ev _ _ _ (by rw [sz, sz]; exact Nat.lt_of_lt_of_le l2 hsz)) rfl]
  simp only [e1]
  rw [wpOpsSIn]
  simp only [Exit.thenS]
  refine wpSIn_cond (t := false) (ev _ _ _ (by rw [sz, sz, sz]; exact Nat.lt_of_lt_of_le l3 hsz)) ?_
  have hres : ∀ tm : Array Value, (results fn tm).run P w = .ok (.tuple #[]) w := fun tm => by
    rw [results_eq]
    simp [hr]
  refine wpSIn_of_wpIn rfl (wpIn_skip ⟨rfl, .returning, ?_, _, hres _, rfl, rfl, _, rfl⟩)
  have : ({ c₀ with mode := .returning } : Frame) = c₀ := by rw [← hu]
  rw [this]
/-- A deferred call of it does nothing where nothing was raised. -/
def NoopF (P : Program) (n : Nat) : Prop := ∀ (args : Array Value) (w : World), (callFunc n args).run P w = .ok (.enter n args) w ∧ CallsDIn (Fc none) 0 P n args .returning w fun e u w' => u = .returning ∧ w' = w ∧ ∃ v, e = .returned v
/-- Such functions stand in the list of the quiet ones as number + 6000000. -/
def dnL : List Nat → List Nat
  | [] => []
  | k :: r => bif Nat.ble 6000000 k then (k - 6000000) :: dnL r else dnL r
theorem dnL_mem {n : Nat} : ∀ {l : List Nat}, memN l (n + 6000000) = true → n ∈ dnL l
  | [], h => by cases h
  | k :: r, h => by
    have h : (bif Nat.beq k (n + 6000000) then true else memN r (n + 6000000)) = true := h
    cases hb : Nat.beq k (n + 6000000) with
    | true =>
      have e := Nat.eq_of_beq_eq_true hb
      subst e
      have : Nat.ble 6000000 (n + 6000000) = true := Nat.ble_eq_true_of_le (by omega)
      simp only [dnL, this, cond_true, Nat.add_sub_cancel, List.mem_cons, true_or]
    | false =>
      rw [hb] at h
      have := dnL_mem (l := r) h
      simp only [dnL]
      cases Nat.ble 6000000 k with
      | true => exact List.mem_cons_of_mem _ this
      | false => exact this
end Go.Pf
