/- The framework, part 30: the intrinsics' conditions. -/
import Derived.Test.YtfkfmlifhdcolaaDoorFw27
import Derived.Test.YtfkfmlifhdcolaaDoorFw29
namespace Go.Pf
open Go

theorem sumC_none {add sub n : Nat} (h1 : Nat.beq n add = false) (h2 : Nat.beq n sub = false) (as : List PV) : sumC add sub n as = none := by
  unfold sumC
  split
  · rw [h1, h2]; rfl
  · rfl

def w_math_bits_Add64 (p0 p1 p2 : Int) (K : Int → Int → Prop) : Prop :=
  asr (decide (p2.toNat ≤ 1)) (K (((p0.toNat + p1.toNat + p2.toNat) % 18446744073709551616 : Nat) : Int) (((p0.toNat + p1.toNat + p2.toNat) / 18446744073709551616 : Nat) : Int))
/-- The lengths of bytes in bits. -/
def len8tab : List PV := ([0,1,2,2,3,3,3,3,4,4,4,4,4,4,4,4,5,5,5,5,5,5,5,5,5,5,5,5,5,5,5,5,6,6,6,6,6,6,6,6,6,6,6,6,6,6,6,6,6,6,6,6,6,6,6,6,6,6,6,6,6,6,6,6,7,7,7,7,7,7,7,7,7,7,7,7,7,7,7,7,7,7,7,7,7,7,7,7,7,7,7,7,7,7,7,7,7,7,7,7,7,7,7,7,7,7,7,7,7,7,7,7,7,7,7,7,7,7,7,7,7,7,7,7,7,7,7,7,8,8,8,8,8,8,8,8,8,8,8,8,8,8,8,8,8,8,8,8,8,8,8,8,8,8,8,8,8,8,8,8,8,8,8,8,8,8,8,8,8,8,8,8,8,8,8,8,8,8,8,8,8,8,8,8,8,8,8,8,8,8,8,8,8,8,8,8,8,8,8,8,8,8,8,8,8,8,8,8,8,8,8,8,8,8,8,8,8,8,8,8,8,8,8,8,8,8,8,8,8,8,8,8,8,8,8,8,8,8,8,8,8,8,8,8,8,8,8,8,8,8,8,8,8,8,8,8] : List Int).map (PV.int .u8)

def pw_math_bits_Add64 (w : Int → Int → Int → (Int → Int → Prop) → Prop) (as : List PV) (K : PV → Prop) : Prop :=
  match as with
  | [(.int .u64 p0), (.int .u64 p1), (.int .u64 p2)] => w p0 p1 p2 (fun (r0 : Int) (r1 : Int) => K (.tup [(.int .u64 r0), (.int .u64 r1)]))
  | _ => False
def wp_math_bits_Add64 (as : List PV) (K : PV → Prop) : Prop := pw_math_bits_Add64 w_math_bits_Add64 as K
def w_math_bits_Sub64 (p0 p1 p2 : Int) (K : Int → Int → Prop) : Prop :=
  asr (decide (p2.toNat ≤ 1)) (K (((p0.toNat + 18446744073709551616 - p1.toNat - p2.toNat) % 18446744073709551616 : Nat) : Int) ((bif Nat.ble (p1.toNat + p2.toNat) p0.toNat then 0 else 1 : Nat) : Int))
def pw_math_bits_Sub64 (w : Int → Int → Int → (Int → Int → Prop) → Prop) (as : List PV) (K : PV → Prop) : Prop :=
  match as with
  | [(.int .u64 p0), (.int .u64 p1), (.int .u64 p2)] => w p0 p1 p2 (fun (r0 : Int) (r1 : Int) => K (.tup [(.int .u64 r0), (.int .u64 r1)]))
  | _ => False
def wp_math_bits_Sub64 (as : List PV) (K : PV → Prop) : Prop := pw_math_bits_Sub64 w_math_bits_Sub64 as K

theorem add64_ok {add sub : Nat} {tab : List (Nat × AFn)} {qui : List Nat} : ∀ as K, wp_math_bits_Add64 as K → ∃ r, K r ∧ Ans (baseE add sub tab qui) add as r := by
  intro as K h
  unfold wp_math_bits_Add64 pw_math_bits_Add64 at h
  split at h
  · rename_i a b c
    obtain ⟨h1, h⟩ := asr_iff.1 h
    have h1 : c.toNat ≤ 1 := by simpa using h1
    refine ⟨_, h, 0, fun m _ => ?_⟩
    have e : (baseE add sub tab qui).sum add [.int .u64 a, .int .u64 b, .int .u64 c] = some (.tup [u64 ((a.toNat + b.toNat + c.toNat) % 18446744073709551616), u64 ((a.toNat + b.toNat + c.toNat) / 18446744073709551616)]) := by
      simp only [baseE, sumC, Nat.beq_refl, Bool.true_and, Nat.ble_eq_true_of_le h1, cond_true]
    simp only [pureRes, e, u64]
  · exact h.elim
theorem sub64_ok {add sub : Nat} (hne : Nat.beq sub add = false) {tab : List (Nat × AFn)} {qui : List Nat} : ∀ as K, wp_math_bits_Sub64 as K → ∃ r, K r ∧ Ans (baseE add sub tab qui) sub as r := by
  intro as K h
  unfold wp_math_bits_Sub64 pw_math_bits_Sub64 at h
  split at h
  · rename_i a b c
    obtain ⟨h1, h⟩ := asr_iff.1 h
    have h1 : c.toNat ≤ 1 := by simpa using h1
    refine ⟨_, h, 0, fun m _ => ?_⟩
    have e : (baseE add sub tab qui).sum sub [.int .u64 a, .int .u64 b, .int .u64 c] = some (.tup [u64 ((a.toNat + 18446744073709551616 - b.toNat - c.toNat) % 18446744073709551616), u64 (bif Nat.ble (b.toNat + c.toNat) a.toNat then 0 else 1)]) := by
      simp only [baseE, sumC, hne, Nat.beq_refl, Bool.true_and, Bool.false_and, Nat.ble_eq_true_of_le h1, cond_true, cond_false]
    simp only [pureRes, e, u64]
  · exact h.elim

/-! From a condition to what any caller gets. -/
theorem sum_ans {P : Program} {E : Env} (hE : EnvOk P E) (hm : P.follows .mixedOrders = true) {n : Nat} {as : List PV} {r : PV} (hs : E.sum n as = none) (hq : E.qui n = true) (h : Ans E n as r) : SumOk P E.glob n as r := by
  obtain ⟨m0, hm0⟩ := h
  have := hm0 m0 (Nat.le_refl _)
  simp only [pureRes, hs, hq, if_true] at this
  refine sum_top hE hm (n := m0) ?_
  unfold topV
  split at this
  · rename_i x H hx; rw [hx]; exact this
  · cases this
end Go.Pf
