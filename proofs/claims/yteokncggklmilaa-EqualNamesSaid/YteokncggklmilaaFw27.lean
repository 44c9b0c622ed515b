/- The framework, part 27: tables of calls that are answered already; what the program's intrinsics answer; a statement without arguments. -/
import Derived.Test.YteokncggklmilaaFw26
import Derived.Laws.Externs
import Derived.KernelRfl
namespace Go.Pf
open Go Go.RowKit

mutual
def beqV : PV → PV → Bool
  | .bool a, .bool b => a == b
  | .int k a, .int l b => decide (k = l) && decide (a = b)
  | .nilp, .nilp => true
  | .nils, .nils => true
  | .emp, .emp => true
  | .nilf, .nilf => true
  | .data a, .data b => beqL a b
  | .agg a, .agg b => beqL a b
  | .tup a, .tup b => beqL a b
  | _, _ => false
def beqL : List PV → List PV → Bool
  | [], [] => true
  | x :: a, y :: b => beqV x y && beqL a b
  | _, _ => false
end

mutual
theorem beqV_eq : ∀ (x y : PV), beqV x y = true → x = y
  | .bool a, y, h => by cases y <;> simp [beqV] at h; rw [h]
  | .int k a, y, h => by cases y <;> simp [beqV] at h; rw [h.1, h.2]
  | .nilp, y, h => by cases y <;> simp [beqV] at h; rfl
  | .nils, y, h => by cases y <;> simp [beqV] at h; rfl
  | .emp, y, h => by cases y <;> simp [beqV] at h; rfl
  | .nilf, y, h => by cases y <;> simp [beqV] at h; rfl
  | .data a, y, h => by cases y <;> simp only [beqV, Bool.false_eq_true] at h; rw [beqL_eq _ _ h]
  | .agg a, y, h => by cases y <;> simp only [beqV, Bool.false_eq_true] at h; rw [beqL_eq _ _ h]
  | .tup a, y, h => by cases y <;> simp only [beqV, Bool.false_eq_true] at h; rw [beqL_eq _ _ h]
  | .ptr .., y, h => by cases y <;> simp [beqV] at h
  | .eptr .., y, h => by cases y <;> simp [beqV] at h
  | .own .., y, h => by cases y <;> simp [beqV] at h
  | .fn .., y, h => by cases y <;> simp [beqV] at h
theorem beqL_eq : ∀ (x y : List PV), beqL x y = true → x = y
  | [], y, h => by cases y <;> simp [beqL] at h; rfl
  | x :: a, y, h => by
    cases y with
    | nil => simp [beqL] at h
    | cons z b =>
      simp only [beqL, Bool.and_eq_true] at h
      rw [beqV_eq _ _ h.1, beqL_eq _ _ h.2]
end

/-- A table: the function's number, the arguments, the answer. -/
abbrev Tab := List (Nat × List PV × PV)

def lookT : Tab → Nat → List PV → Option PV
  | [], _, _ => none
  | (k, as, r) :: t, n, bs => bif Nat.beq k n && beqL as bs then some r else lookT t n bs

theorem lookT_mem : ∀ (t : Tab) (n : Nat) (as : List PV) (r : PV), lookT t n as = some r → (n, as, r) ∈ t
  | [], _, _, _, h => by simp [lookT] at h
  | (k, bs, q) :: t, n, as, r, h => by
    simp only [lookT] at h
    cases hc : (Nat.beq k n && beqL bs as) with
    | true =>
      rw [hc] at h
      simp only [cond_true, Option.some.injEq] at h
      simp only [Bool.and_eq_true] at hc
      have h1 := Nat.eq_of_beq_eq_true hc.1
      have h2 := beqL_eq _ _ hc.2
      subst h1; subst h2; subst h; simp
    | false =>
      rw [hc] at h
      simp only [cond_false] at h
      exact List.mem_cons_of_mem _ (lookT_mem t n as r h)

def Env.plus (E : Env) (t : Tab) : Env :=
  { E with sum := fun n as => match lookT t n as with | some r => some r | none => E.sum n as }

/-- Each entry of a table is what the evaluator answers. -/
def checksT (E : Env) (fuel : Nat) : Tab → Bool
  | [] => true
  | (n, as, r) :: t => (match topV E fuel n as with | some q => beqV q r | none => false) && checksT E fuel t

section
variable {P : Program} {E : Env}

theorem checksT_ok (hE : EnvOk P E) (hm : P.follows .mixedOrders = true) {fuel : Nat} :
    ∀ (t : Tab), checksT E fuel t = true → ∀ n as r, (n, as, r) ∈ t → SumOk P E.glob n as r
  | [], _, _, _, _, h => by simp at h
  | (k, bs, q) :: t, hc, n, as, r, h => by
    simp only [checksT, Bool.and_eq_true] at hc
    rcases List.mem_cons.1 h with h | h
    · cases h
      obtain ⟨h1, _⟩ := hc
      split at h1
      · rename_i x hx
        rw [beqV_eq _ _ h1] at hx
        exact sum_top hE hm hx
      · cases h1
    · exact checksT_ok hE hm t hc.2 n as r h

theorem plus_ok (hE : EnvOk P E) (hm : P.follows .mixedOrders = true) {fuel : Nat} {t : Tab} (h : checksT E fuel t = true) : EnvOk P (E.plus t) where
  sum := by
    intro n as r e
    simp only [Env.plus] at e
    split at e
    · rename_i q hq
      cases e
      exact checksT_ok hE hm t h n as _ (lookT_mem t n as _ hq)
    · exact hE.sum n as r e
  fns := hE.fns
  eff := EnvOk.eff' (E := E) (E' := E.plus t) rfl rfl rfl hE.eff
  top := hE.top
  yl := EnvOk.yl' (E' := E.plus t) hE rfl rfl rfl rfl

/-- The functions' table. -/
def lookF : List (Nat × AFn) → Nat → Option AFn
  | [], _ => none
  | (k, a) :: r, n => bif Nat.beq k n then some a else lookF r n

def AllOk (P : Program) : List (Nat × AFn) → Prop
  | [] => True
  | (n, a) :: r => (∃ f loc fg, P.funcs[n]? = some f ∧ compFn P loc fg f = some a) ∧ AllOk P r

theorem lookF_ok : ∀ (l : List (Nat × AFn)), AllOk P l → ∀ n a, lookF l n = some a → ∃ f loc fg, P.funcs[n]? = some f ∧ compFn P loc fg f = some a
  | [], _, _, _, h => by simp [lookF] at h
  | (k, b) :: r, hl, n, a, h => by
    simp only [AllOk] at hl
    simp only [lookF] at h
    cases hc : Nat.beq k n with
    | true =>
      rw [hc] at h
      simp only [cond_true, Option.some.injEq] at h
      have := Nat.eq_of_beq_eq_true hc
      subst this; subst h
      exact hl.1
    | false =>
      rw [hc] at h
      exact lookF_ok r hl.2 n a (by simpa using h)

theorem lookF_app (l m : List (Nat × AFn)) (hl : AllOk P l) (hm : AllOk P m) : AllOk P (l ++ m) := by
  induction l with
  | nil => exact hm
  | cons x r ih =>
    obtain ⟨n, a⟩ := x
    simp only [AllOk, List.cons_append] at hl ⊢
    exact ⟨hl.1, ih hl.2⟩

def memN : List Nat → Nat → Bool
  | [], _ => false
  | k :: r, n => bif Nat.beq k n then true else memN r n

/-! The intrinsics. -/

def u64 (n : Nat) : PV := .int .u64 (n : Int)

/-- Add64 and Sub64, by their numbers. -/
def sumC (add sub : Nat) (n : Nat) (as : List PV) : Option PV :=
  match as with
  | [.int .u64 a, .int .u64 b, .int .u64 c] =>
    bif Nat.beq n add && Nat.ble c.toNat 1 then some (.tup [u64 ((a.toNat + b.toNat + c.toNat) % 18446744073709551616), u64 ((a.toNat + b.toNat + c.toNat) / 18446744073709551616)])
    else bif Nat.beq n sub && Nat.ble c.toNat 1 then some (.tup [u64 ((a.toNat + 18446744073709551616 - b.toNat - c.toNat) % 18446744073709551616), u64 (bif Nat.ble (b.toNat + c.toNat) a.toNat then 0 else 1)])
    else none
  | _ => none

def sub64E : Array Value → Sem Value := fun args => do
  let (x, y, b) ← Extern.MathBitsCarry.three "Sub64" args
  pure (Extern.MathBitsCarry.pair ((x + Extern.MathBitsCarry.m64 - y - b) % Extern.MathBitsCarry.m64) (if x < y + b then 1 else 0))

theorem run_sub64E (x y : Int) (b : Nat) (hb : b ≤ 1) (w : World) :
    (sub64E #[.int .u64 x, .int .u64 y, .int .u64 b]).run P w =
      .ok (.tuple #[.int .u64 (((x.toNat + 18446744073709551616 - y.toNat - b) % 18446744073709551616 : Nat) : Int), .int .u64 ((if x.toNat < y.toNat + b then 1 else 0 : Nat) : Int)]) w := by
  have : b = 0 ∨ b = 1 := by omega
  rcases this with rfl | rfl <;> rfl

theorem run_add64E (x y : Int) (b : Nat) (hb : b ≤ 1) (w : World) :
    (add64Entry #[.int .u64 x, .int .u64 y, .int .u64 b]).run P w =
      .ok (.tuple #[.int .u64 (((x.toNat + y.toNat + b) % 18446744073709551616 : Nat) : Int), .int .u64 (((x.toNat + y.toNat + b) / 18446744073709551616 : Nat) : Int)]) w := by
  have : b = 0 ∨ b = 1 := by omega
  rcases this with rfl | rfl <;> rfl

theorem three_ints {I : Nat → Prop} {w : World} {a b c : Int} {vs : List Value} (h : VPs I w [.int .u64 a, .int .u64 b, .int .u64 c] vs) : vs = [.int .u64 a, .int .u64 b, .int .u64 c] := by
  simp only [VPs, VP1, RC, List.cons.injEq, and_true] at h
  obtain ⟨v, r, rfl, ⟨rfl, _⟩, v2, r2, rfl, ⟨rfl, _⟩, v3, r3, rfl, ⟨rfl, _⟩, rfl⟩ := h
  rfl

/-- A function without a body that the model's table answers. -/
structure IsExtern (P : Program) (f : FuncId) (e : Array Value → Sem Value) : Prop where
  h : ∃ fn, P.funcs[f]? = some fn ∧ (fn.name == "runtime.NumGoroutine") = false ∧ fn.body.isNone = true ∧ Extern.findNext fn = none ∧ Extern.find fn = some e

theorem IsExtern.run {f : FuncId} {e : Array Value → Sem Value} (h : IsExtern P f e) (args : Array Value) (w : World) : (callFunc f args).run P w = ((e args).run P w).andThen fun v w' => .ok (.value v) w' := by
  obtain ⟨fn, h1, h2, h3, h4, h5⟩ := h.h
  exact run_callFunc_extern h1 h2 h3 h4 h5 args w

theorem inK_u64 (n : Nat) (h : n < 18446744073709551616) : inK .u64 (n : Int) := by
  have h0 : IntKind.u64.min = 0 := by decide
  have h1 : IntKind.u64.max = 18446744073709551615 := by decide
  exact ⟨by rw [h0]; omega, by rw [h1]; omega⟩

theorem sumOk_pair {G : Nat → Option PV} {f : FuncId} {as : List PV} {a b : Nat} (ha : a < 18446744073709551616) (hb : b < 18446744073709551616)
    (h : ∀ (I : Nat → Prop) (w : World) (vs : List Value), VPs I w as vs → (callFunc f vs.toArray).run P w = .ok (.value (.tuple #[.int .u64 (a : Int), .int .u64 (b : Int)])) w) : SumOk P G f as (.tup [u64 a, u64 b]) := by
  intro I w vs _ _ hv
  unfold CallR
  rw [h I w vs hv]
  refine ⟨Bel.refl _ _, ?_⟩
  simp only [VP, VPs, VP1, RC, u64]
  exact ⟨_, rfl, _, _, rfl, ⟨rfl, inK_u64 a ha⟩, _, _, rfl, ⟨rfl, inK_u64 b hb⟩, rfl⟩

theorem sumC_ok {G : Nat → Option PV} {add sub : Nat} (ha : IsExtern P add add64Entry) (hs : IsExtern P sub sub64E) : ∀ n as r, sumC add sub n as = some r → SumOk P G n as r := by
  intro n as r h
  unfold sumC at h
  split at h
  · rename_i a b c
    have key : ∀ (x y : Int) (I : Nat → Prop) (w : World) (vs : List Value), VPs I w [.int .u64 a, .int .u64 b, .int .u64 c] vs → a.toNat < 18446744073709551616 ∧ b.toNat < 18446744073709551616 ∧ 0 ≤ c := by
      intro x y I w vs hv
      simp only [VPs, VP1, RC, inK] at hv
      obtain ⟨v, r, -, ⟨-, h1⟩, v2, r2, -, ⟨-, h2⟩, v3, r3, -, ⟨-, h3⟩, -⟩ := hv
      have e1 : IntKind.u64.max = 18446744073709551615 := by decide
      have e0 : IntKind.u64.min = 0 := by decide
      rw [e1] at h1 h2; rw [e0] at h3
      exact ⟨by omega, by omega, h3.1⟩
    cases h1 : (Nat.beq n add && Nat.ble c.toNat 1) with
    | true =>
      rw [h1] at h
      simp only [cond_true, Option.some.injEq] at h
      simp only [Bool.and_eq_true] at h1
      have e := Nat.eq_of_beq_eq_true h1.1
      have hc := Nat.le_of_ble_eq_true h1.2
      subst e; subst h
      intro I w vs hI hgl hv
      obtain ⟨la, lb, -⟩ := key 0 0 I w vs hv
      refine sumOk_pair (Nat.mod_lt _ (by omega)) (by omega) (fun I w vs hv => ?_) I w vs hI hgl hv
      have h0 := (key 0 0 I w vs hv).2.2
      have ec : c = (c.toNat : Int) := by omega
      rw [three_ints hv, ha.run, ec]
      exact congrArg (fun r => Result.andThen r fun v w' => Result.ok (Next.value v) w') (run_add64E a b c.toNat hc w)
    | false =>
      rw [h1] at h
      simp only [cond_false] at h
      cases h2 : (Nat.beq n sub && Nat.ble c.toNat 1) with
      | true =>
        rw [h2] at h
        simp only [cond_true, Option.some.injEq] at h
        simp only [Bool.and_eq_true] at h2
        have e := Nat.eq_of_beq_eq_true h2.1
        have hc := Nat.le_of_ble_eq_true h2.2
        subst e; subst h
        refine sumOk_pair (Nat.mod_lt _ (by omega)) (by cases Nat.ble (b.toNat + c.toNat) a.toNat <;> simp) (fun I w vs hv => ?_)
        have : (if a.toNat < b.toNat + c.toNat then 1 else 0 : Nat) = (bif Nat.ble (b.toNat + c.toNat) a.toNat then 0 else 1) := by
          cases hh : Nat.ble (b.toNat + c.toNat) a.toNat with
          | true => have := Nat.le_of_ble_eq_true hh; simp; omega
          | false =>
            have : ¬ (b.toNat + c.toNat ≤ a.toNat) := fun hle => by rw [Nat.ble_eq_true_of_le hle] at hh; cases hh
            simp; omega
        have h0 := (key 0 0 I w vs hv).2.2
        have ec : c = (c.toNat : Int) := by omega
        rw [← this, three_ints hv, hs.run, ec]
        exact congrArg (fun r => Result.andThen r fun v w' => Result.ok (Next.value v) w') (run_sub64E a b c.toNat hc w)
      | false => rw [h2] at h; cases h
  · cases h

/-- The environment to begin with. -/
def baseE (add sub : Nat) (tab : List (Nat × AFn)) (qui : List Nat) : Env := { glob := fun _ => none, sum := sumC add sub, fns := lookF tab, frz := fun _ => false, qui := memN qui }

theorem base_ok {add sub : Nat} {tab : List (Nat × AFn)} {qui : List Nat} (ha : IsExtern P add add64Entry) (hs : IsExtern P sub sub64E) (ht : AllOk P tab) : EnvOk P (baseE add sub tab qui) where
  sum := fun n as r h => sumC_ok ha hs n as r h
  fns := fun n fn h => lookF_ok tab ht n fn h
  eff := fun _ _ _ _ _ _ _ h => by cases h
  top := fun _ _ => rfl
  yl := fun _ _ _ _ _ _ h => by cases h

/-- A statement without arguments. -/
theorem calls_closed {f : FuncId} {fn : Func} (hs : SumOk P (fun _ => none) f [] (.bool true)) (hf : P.funcs[f]? = some fn) (hn : (fn.name == "runtime.NumGoroutine") = false) (hb : fn.body.isSome = true) (w : World) :
    Calls P f #[] w fun e w' => e = .returned (.bool true) ∧ Below w.heap.size w w' := by
  have h := hs (fun _ => False) w [] (fun _ h => h.elim) (fun _ _ h => nomatch h) (by simp only [VPs])
  have e : (callFunc f ([] : List Value).toArray).run P w = .ok (.enter f #[]) w := by
    have h1 : fn.name ≠ "runtime.NumGoroutine" := by simpa using hn
    obtain ⟨c, hc⟩ := Option.isSome_iff_exists.1 hb
    simp [callFunc, hf, h1, hc]
  unfold CallR at h
  rw [e] at h
  refine Calls.mono h fun e w' he => ?_
  cases e with
  | returned v =>
    obtain ⟨h1, h2⟩ := he
    simp only [VP, VP1, RC, List.cons.injEq, and_true] at h2
    exact ⟨by rw [h2], h1.toBelow⟩
  | panicked ch => exact he.elim
  | outgrown => exact he.elim
end
end Go.Pf
