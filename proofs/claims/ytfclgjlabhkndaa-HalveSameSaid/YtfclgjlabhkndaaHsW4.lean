/- Part 4 of what the statement rests on: a verified evaluator over pure values, the conditions of the program's functions, and their plain laws. -/
import Derived.Test.YtfclgjlabhkndaaHsW3
noncomputable section
namespace Go.Pf.Vc
open Go Go.Pf
theorem Div64_of {h l y : Int} (hh : U64 h) (hl : U64 l) (hy : U64 y) (hlt : h < y) {K : Int → Int → Prop}
   (k : K ((h * 18446744073709551616 + l) / y) ((h * 18446744073709551616 + l) % y)) : w_m_Div64 h l y K := by
 unfold U64 at hh hl hy
 unfold w_m_Div64 wv_m_Div64
 have b1 : (y == (0 : Int)) = false := beq_eq_false_iff_ne.2 (by omega)
 have b2 : decide (y ≤ h) = false := decide_eq_false (by omega)
 have b3 : (!(decide (y = (0 : Int)))) = true := by rw [decide_eq_false (by omega)]; rfl
 rw [b1, cbr_false, b2, cbr_false, b3]
 by_cases h0 : h = 0
 · subst h0
   have : ((0 : Int) == 0) = true := rfl
   rw [this, cbr_true, asr_true, asr_true, tdivn hl.1, tmodn hl.1]
   have e : (0 : Int) * 18446744073709551616 + l = l := by omega
   rw [e] at k
   have b4 : l / y ≤ l := Int.ediv_le_self _ hl.1
   rw [wu64 ⟨Int.ediv_nonneg hl.1 (by omega), by omega⟩]
   exact k
 · have b4 : (h == (0 : Int)) = false := beq_eq_false_iff_ne.2 h0
   rw [b4, cbr_false]
   refine LeadingZeros64_of ⟨by omega, by omega⟩ ?_
   have hyn : y.toNat ≠ 0 := by omega
   have c1 := blen_lt y.toNat
   have c2 := blen_le hyn
   have c3 : blen y.toNat ≤ 64 := by
     refine Nat.le_of_not_lt fun hc => ?_
     have := Nat.pow_le_pow_right (show 0 < 2 by omega) (show 64 ≤ blen y.toNat - 1 by omega)
     omega
   have c4 : 1 ≤ blen y.toNat := by
     refine Nat.le_of_not_lt fun hc => ?_
     have : blen y.toNat = 0 := by omega
     rw [this] at c1
     omega
   obtain ⟨m, hm⟩ : ∃ m, m = 64 - blen y.toNat := ⟨_, rfl⟩
   have es : (64 - (blen y.toNat : Int)) = (m : Int) := by omega
   rw [es]
   have m63 : m ≤ 63 := by omega
   have e1 : IntKind.u64.wrap (m : Int) = m := wu64 ⟨by omega, by omega⟩
   have e2 : IntKind.u64.wrap ((64 : Int) - m) = ((64 - m : Nat) : Int) := by
     rw [wu64 ⟨by omega, by omega⟩]; omega
   have e3 : min ((m : Int)).toNat IntKind.u64.bits = m := by
     show min ((m : Int)).toNat 64 = m
     rw [Int.toNat_natCast]; omega
   have e4 : min (((64 - m : Nat) : Int)).toNat IntKind.u64.bits = 64 - m := by
     show min (((64 - m : Nat) : Int)).toNat 64 = 64 - m
     rw [Int.toNat_natCast]; omega
   simp only [e1]
   rw [e2, e3, e4]
   have p64 : (2 : Int) ^ (64 - m) * 2 ^ m = 18446744073709551616 := by
     rw [← Int.pow_add, show 64 - m + m = 64 by omega]; rfl
   have p63 : (2 : Int) ^ (63 - m) * 2 ^ m = 9223372036854775808 := by
     rw [← Int.pow_add, show 63 - m + m = 63 by omega]; rfl
   have tp : (0 : Int) < 2 ^ m := Int.pow_pos (by omega)
   have tp' : (0 : Int) < 2 ^ (64 - m) := Int.pow_pos (by omega)
   have y1 : y < (2 : Int) ^ (64 - m) := by
     have : blen y.toNat = 64 - m := by omega
     rw [this] at c1
     have c1' : ((y.toNat : Nat) : Int) < ((2 ^ (64 - m) : Nat) : Int) := by exact_mod_cast c1
     push_cast at c1'
     omega
   have y2 : (2 : Int) ^ (63 - m) ≤ y := by
     have : blen y.toNat - 1 = 63 - m := by omega
     rw [this] at c2
     have c2' : ((2 ^ (63 - m) : Nat) : Int) ≤ ((y.toNat : Nat) : Int) := by exact_mod_cast c2
     push_cast at c2'
     omega
   have Y1 : y * 2 ^ m < 18446744073709551616 := by
     have := Int.mul_lt_mul_of_pos_right y1 tp
     omega
   have Y2 : 9223372036854775808 ≤ y * 2 ^ m := by
     have := Int.mul_le_mul_of_nonneg_right y2 (show (0 : Int) ≤ 2 ^ m by omega)
     omega
   have H1 : (h + 1) * 2 ^ m ≤ y * 2 ^ m := Int.mul_le_mul_of_nonneg_right (by omega) (by omega)
   have H2 : (h + 1) * 2 ^ m = h * 2 ^ m + 2 ^ m := by grind
   have H0 : 0 ≤ h * 2 ^ m := Int.mul_nonneg hh.1 (by omega)
   have fd : Int.fdiv l (2 ^ (64 - m)) = l / 2 ^ (64 - m) := fdivn _ _ (by omega)
   have L1 := Int.mul_ediv_add_emod l (2 ^ (64 - m))
   have L2 := Int.emod_nonneg l (show (2 : Int) ^ (64 - m) ≠ 0 by omega)
   have L3 := Int.emod_lt_of_pos l tp'
   have L4 : 0 ≤ l / 2 ^ (64 - m) := Int.ediv_nonneg hl.1 (by omega)
   have L5 : l / 2 ^ (64 - m) < 2 ^ m := by
     refine Int.ediv_lt_of_lt_mul tp' ?_
     rw [Int.mul_comm, p64]; omega
   have w1 : IntKind.u64.wrap (y * 2 ^ m) = y * 2 ^ m := wu64 ⟨by omega, by omega⟩
   have w2 : IntKind.u64.wrap (h * 2 ^ m) = h * 2 ^ m := wu64 ⟨by omega, by omega⟩
   have w3 : IntKind.u64.wrap (BitVec.ofInt IntKind.u64.bits (h * 2 ^ m) ||| BitVec.ofInt IntKind.u64.bits (l / 2 ^ (64 - m))).toNat = h * 2 ^ m + l / 2 ^ (64 - m) :=
     or_eq hh.1 ⟨L4, L5⟩ ⟨by omega, by omega⟩ (by omega)
   have w4 : IntKind.u64.wrap (l * 2 ^ m) = l % 2 ^ (64 - m) * 2 ^ m := by
     have e : l * 2 ^ m = (l / 2 ^ (64 - m)) * 18446744073709551616 + l % 2 ^ (64 - m) * 2 ^ m := by
       rw [← p64]
       obtain ⟨a, ha⟩ : ∃ a, a = l / 2 ^ (64 - m) := ⟨_, rfl⟩
       obtain ⟨b, hb⟩ : ∃ b, b = l % 2 ^ (64 - m) := ⟨_, rfl⟩
       obtain ⟨t, ht⟩ : ∃ t, t = (2 : Int) ^ m := ⟨_, rfl⟩
       obtain ⟨t', ht'⟩ : ∃ t, t = (2 : Int) ^ (64 - m) := ⟨_, rfl⟩
       rw [← ha, ← hb, ← ht'] at L1
       rw [← ha, ← hb, ← ht, ← ht']
       rw [← L1]; grind
     have e5 : l % 2 ^ (64 - m) * 2 ^ m < 18446744073709551616 := by
       rw [← p64]; exact Int.mul_lt_mul_of_pos_right L3 tp
     have e6 : 0 ≤ l % 2 ^ (64 - m) * 2 ^ m := Int.mul_nonneg L2 (by omega)
     rw [e, wu64']; omega
   have e5 : l % 2 ^ (64 - m) * 2 ^ m < 18446744073709551616 := by
     rw [← p64]; exact Int.mul_lt_mul_of_pos_right L3 tp
   have e6 : 0 ≤ l % 2 ^ (64 - m) * 2 ^ m := Int.mul_nonneg L2 (by omega)
   have eN : (h * 18446744073709551616 + l) * 2 ^ m = (h * 2 ^ m + l / 2 ^ (64 - m)) * 18446744073709551616 + l % 2 ^ (64 - m) * 2 ^ m := by
     rw [← p64]
     obtain ⟨a, ha⟩ : ∃ a, a = l / 2 ^ (64 - m) := ⟨_, rfl⟩
     obtain ⟨b, hb⟩ : ∃ b, b = l % 2 ^ (64 - m) := ⟨_, rfl⟩
     obtain ⟨t, ht⟩ : ∃ t, t = (2 : Int) ^ m := ⟨_, rfl⟩
     obtain ⟨t', ht'⟩ : ∃ t, t = (2 : Int) ^ (64 - m) := ⟨_, rfl⟩
     rw [← ha, ← hb, ← ht'] at L1
     rw [← ha, ← hb, ← ht, ← ht']
     rw [← L1]; grind
   have U1 : h * 2 ^ m + l / 2 ^ (64 - m) < y * 2 ^ m := by omega
   have U0 : 0 ≤ h * 2 ^ m + l / 2 ^ (64 - m) := by omega
   rw [fd, w1, w2, w3, w4]
   have b5 : (!(decide ((m : Int) < 0))) = true := by rw [decide_eq_false (by omega)]; rfl
   have b6 : (!(decide (((64 - m : Nat) : Int) < 0))) = true := by rw [decide_eq_false (by omega)]; rfl
   rw [b5, b6, asr_true, asr_true, asr_true, asr_true]
   generalize h * 2 ^ m + l / 2 ^ (64 - m) = u at *
   generalize hl0 : l % 2 ^ (64 - m) * 2 ^ m = v at *
   generalize hY : y * 2 ^ m = Y at *
   rw [fdivn Y _ (by omega), fdivn v _ (by omega), mask32 ⟨by omega, by omega⟩, mask32 ⟨by omega, by omega⟩, tdivn U0]
   have b7 : (!(decide (Y / 4294967296 = (0 : Int)))) = true := by rw [decide_eq_false (by omega)]; rfl
   rw [b7, asr_true]
   obtain ⟨yn1, hyn1⟩ : ∃ a, a = Y / 4294967296 := ⟨_, rfl⟩
   obtain ⟨yn0, hyn0⟩ : ∃ a, a = Y % 4294967296 := ⟨_, rfl⟩
   obtain ⟨un1, hun1⟩ : ∃ a, a = v / 4294967296 := ⟨_, rfl⟩
   obtain ⟨un0, hun0⟩ : ∃ a, a = v % 4294967296 := ⟨_, rfl⟩
   rw [← hyn1, ← hyn0, ← hun1, ← hun0]
   have d1 : 2147483648 ≤ yn1 ∧ yn1 ≤ 4294967295 := by omega
   have d0 : 0 ≤ yn0 ∧ yn0 ≤ 4294967295 := by omega
   have dn1 : 0 ≤ un1 ∧ un1 ≤ 4294967295 := by omega
   have dn0 : 0 ≤ un0 ∧ un0 ≤ 4294967295 := by omega
   have dY : Y = yn1 * 4294967296 + yn0 := by omega
   have g1 := DI.init dY d1 d0 dn1 U0 U1
   have x1 : IntKind.u64.wrap (u / yn1) = u / yn1 := wu64 ⟨g1.hq.1, by have := g1.hq.2; omega⟩
   have x2 : IntKind.u64.wrap (u - IntKind.u64.wrap (u / yn1 * yn1)) = u - u / yn1 * yn1 := by
     have r1 := g1.hr.1
     have r2 : 0 ≤ u / yn1 * yn1 := Int.mul_nonneg g1.hq.1 (by omega)
     have r3 := g1.hr.2
     rw [wu64 (n := u / yn1 * yn1) ⟨r2, by omega⟩, wu64 ⟨r1, by omega⟩]
   rw [x1, x2]
   have fin : ∀ q1 : Int, DG Y u un1 q1 → ∀ (un21 : Int), un21 = u * 4294967296 + un1 - q1 * Y → ∀ q0, DG Y un21 un0 q0 →
       K (IntKind.u64.wrap ((IntKind.u64.wrap (q1 * (4294967296 : Int))) + q0)) (Int.fdiv (IntKind.u64.wrap ((IntKind.u64.wrap ((IntKind.u64.wrap (un21 * (4294967296 : Int))) + un0)) - (IntKind.u64.wrap (q0 * Y)))) (2 ^ (min ((m : Int)).toNat IntKind.u64.bits))) := by
     intro q1 G1 un21 e21 q0 G0
     obtain ⟨a1, a2, a3, a4⟩ := G1
     obtain ⟨c1, c2, c3, c4⟩ := G0
     have s1 : (q1 + 1) * Y = q1 * Y + Y := by grind
     have s0 : (q0 + 1) * Y = q0 * Y + Y := by grind
     have w5 : IntKind.u64.wrap (q1 * 4294967296) = q1 * 4294967296 := wu64 ⟨by omega, by omega⟩
     have w6 : IntKind.u64.wrap (q1 * 4294967296 + q0) = q1 * 4294967296 + q0 := wu64 ⟨by omega, by omega⟩
     rw [rest_eq (by omega) (by omega), w5, w6, e3, fdivn _ _ (by omega)]
     have eT : un21 * 4294967296 + un0 - q0 * Y = (h * 18446744073709551616 + l - (q1 * 4294967296 + q0) * y) * 2 ^ m := by
       have f1 : (q1 * 4294967296 + q0) * Y = q1 * Y * 4294967296 + q0 * Y := by grind
       have f2 : (h * 18446744073709551616 + l - (q1 * 4294967296 + q0) * y) * 2 ^ m = (h * 18446744073709551616 + l) * 2 ^ m - (q1 * 4294967296 + q0) * Y := by
         rw [← hY, Int.sub_mul, Int.mul_assoc (q1 * 4294967296 + q0)]
       rw [f2, f1, eN]
       omega
     rw [eT, Int.mul_ediv_cancel _ (by omega)]
     have r0 : 0 ≤ h * 18446744073709551616 + l - (q1 * 4294967296 + q0) * y := by
       refine Int.not_lt.1 fun hc => ?_
       have := Int.mul_neg_of_neg_of_pos hc tp
       omega
     have r1 : h * 18446744073709551616 + l - (q1 * 4294967296 + q0) * y < y := by
       refine Int.not_le.1 fun hc => ?_
       have := Int.mul_le_mul_of_nonneg_right hc (show (0 : Int) ≤ 2 ^ m by omega)
       omega
     obtain ⟨Q, hQ⟩ : ∃ Q, Q = q1 * 4294967296 + q0 := ⟨_, rfl⟩
     rw [← hQ] at r0 r1 ⊢
     have z1 : (h * 18446744073709551616 + l) / y = Q := by
       have : h * 18446744073709551616 + l = (h * 18446744073709551616 + l - Q * y) + Q * y := by omega
       rw [this, Int.add_mul_ediv_right _ _ (by omega), Int.ediv_eq_zero_of_lt r0 r1]; omega
     have z2 : (h * 18446744073709551616 + l) % y = h * 18446744073709551616 + l - Q * y := by
       have := Int.mul_ediv_add_emod (h * 18446744073709551616 + l) y
       rw [z1, Int.mul_comm] at this
       omega
     rw [z1, z2] at k
     exact k
   have mid : ∀ q : Int, DG Y u un1 q → ∀ (X : Int → Int → Int → Int → Int → Int → Int → Int → Int → Bool → Prop), (∀ q0 r0 b0, DG Y (u * 4294967296 + un1 - q * Y) un0 q0 → X Y m yn1 yn0 un0 q r0 (u * 4294967296 + un1 - q * Y) q0 b0) →
       asr (!(decide (yn1 = (0 : Int)))) (∃ n : Nat, L_m_Div64_1_0 w_m_LeadingZeros64 X X n Y m yn1 yn0 un0 q ((IntKind.u64.wrap ((IntKind.u64.wrap ((IntKind.u64.wrap ((IntKind.u64.wrap (u * (4294967296 : Int))) + un1)) - (IntKind.u64.wrap (q * Y)))) - (IntKind.u64.wrap ((IntKind.u64.wrap (Int.tdiv (IntKind.u64.wrap ((IntKind.u64.wrap ((IntKind.u64.wrap (u * (4294967296 : Int))) + un1)) - (IntKind.u64.wrap (q * Y)))) yn1)) * yn1))))) (IntKind.u64.wrap ((IntKind.u64.wrap ((IntKind.u64.wrap (u * (4294967296 : Int))) + un1)) - (IntKind.u64.wrap (q * Y)))) (IntKind.u64.wrap (Int.tdiv (IntKind.u64.wrap ((IntKind.u64.wrap ((IntKind.u64.wrap (u * (4294967296 : Int))) + un1)) - (IntKind.u64.wrap (q * Y)))) yn1))) := by
     intro q G X hX
     obtain ⟨a1, a2, a3, a4⟩ := G
     have s1 : (q + 1) * Y = q * Y + Y := by grind
     have b8 : (!(decide (yn1 = (0 : Int)))) = true := by rw [decide_eq_false (by omega)]; rfl
     rw [b8, asr_true, rest_eq (by omega) (by omega), tdivn (by omega)]
     have g0 := DI.init dY d1 d0 dn0 (u := u * 4294967296 + un1 - q * Y) (by omega) (by omega)
     generalize u * 4294967296 + un1 - q * Y = u2 at *
     have x1 : IntKind.u64.wrap (u2 / yn1) = u2 / yn1 := wu64 ⟨g0.hq.1, by have := g0.hq.2; omega⟩
     have x2 : IntKind.u64.wrap (u2 - IntKind.u64.wrap (u2 / yn1 * yn1)) = u2 - u2 / yn1 * yn1 := by
       have r1 := g0.hr.1
       have r2 : 0 ≤ u2 / yn1 * yn1 := Int.mul_nonneg g0.hq.1 (by omega)
       have r3 := g0.hr.2
       have r4 := g0.hlt
       rw [wu64 (n := u2 / yn1 * yn1) ⟨r2, by omega⟩, wu64 ⟨r1, by omega⟩]
     rw [x1, x2]
     exact ⟨3, L1_of' _ _ _ _ (fun q0 r0 b0 g => hX q0 r0 b0 g) (fun q0 r0 b0 g => hX q0 r0 b0 g) _ _ g0⟩
   have leaf : ∀ {P : Prop}, P → asr (!(decide ((m : Int) < 0))) P := fun p => by rw [b5, asr_true]; exact p
   refine ⟨3, L0_of' _ _ _ _ (fun q r b G => ?_) (fun q r b G => ?_) _ _ g1⟩
   · exact mid q G _ (fun q0 r0 b0 G0 => leaf (fin q G _ rfl q0 G0))
   · exact mid q G _ (fun q0 r0 b0 G0 => leaf (fin q G _ rfl q0 G0))
end Go.Pf.Vc
namespace Go.Pf.Vc
open Go Go.Pf
theorem Rem64_of {h l y : Int} (hh : U64 h) (hl : U64 l) (hy : U64 y) (h0 : 0 < y) {K : Int → Prop}
   (k : K ((h * 18446744073709551616 + l) % y)) : w_m_Rem64 h l y K := by
 unfold w_m_Rem64 wv_m_Rem64
 have b3 : (!(decide (y = (0 : Int)))) = true := by rw [decide_eq_false (by omega)]; rfl
 have a1 := Int.emod_nonneg h (show y ≠ 0 by omega)
 have a2 := Int.emod_lt_of_pos h h0
 have hh' := hh
 unfold U64 at hh hy
 rw [b3, asr_true, tmodn hh.1]
 refine Div64_of ⟨a1, by omega⟩ hl ⟨by omega, by omega⟩ a2 ?_
 have e : (h % y * 18446744073709551616 + l) % y = (h * 18446744073709551616 + l) % y := by
   rw [Int.add_emod, Int.mul_emod, Int.emod_emod, ← Int.mul_emod, ← Int.add_emod]
 rw [e]
 exact k
def outS (s : Bool) (a b : Int) (K : Int → Int → Int → Prop) : Prop :=
 if a ≤ 1000000000000000000 ∧ b ≤ 1000000000000000000 then K (if s then -a else a) b 0 else K 0 0 16
theorem signed_eq {s : Bool} {a b : Int} (ha : 0 ≤ a) (hb : 0 ≤ b) (K : Int → Int → Int → Prop) : w_ratio_signed s a b K = outS s a b K := by
 unfold w_ratio_signed wv_ratio_signed outS
 by_cases h : a ≤ 1000000000000000000 ∧ b ≤ 1000000000000000000
 · have e : decide ((if b > a then b else a) > (1000000000000000000 : Int)) = false := by
     refine decide_eq_false ?_
     split <;> omega
   have w1 : IntKind.i64.wrap a = a := wi64 ⟨by omega, by omega⟩
   have w2 : IntKind.i64.wrap b = b := wi64 ⟨by omega, by omega⟩
   have w3 : IntKind.i64.wrap (0 - a) = -a := by rw [wi64 ⟨by omega, by omega⟩]; omega
   rw [e, cbr_false, if_pos h, w1, w2, w3]
   cases s
   · rfl
   · rfl
 · have e : decide ((if b > a then b else a) > (1000000000000000000 : Int)) = true := by
     refine decide_eq_true ?_
     split <;> omega
   rw [e, cbr_true, if_neg h]
theorem Make_of {n d : Int} (hn : I64 n) (hd : I64 d) {K : Int → Int → Int → Prop}
   (k : if d = 0 then K 0 0 18 else outS (decide (n < 0) != decide (d < 0)) ((n.natAbs / Nat.gcd n.natAbs d.natAbs : Nat) : Int) ((d.natAbs / Nat.gcd n.natAbs d.natAbs : Nat) : Int) K) : w_ratio_Make n d K := by
 unfold w_ratio_Make wv_ratio_Make
 by_cases h : d = 0
 · rw [if_pos h] at k
   have : (d == (0 : Int)) = true := beq_iff_eq.2 h
   rw [this, cbr_true]
   exact k
 · rw [if_neg h] at k
   have : (d == (0 : Int)) = false := beq_eq_false_iff_ne.2 h
   rw [this, cbr_false, size_eq hn, size_eq hd]
   refine gcd_of _ _ _ ?_
   have gp : 0 < Nat.gcd n.natAbs d.natAbs := Nat.gcd_pos_of_pos_right _ (by omega)
   have b3 : (!(decide (((Nat.gcd n.natAbs d.natAbs : Nat) : Int) = (0 : Int)))) = true := by rw [decide_eq_false (by omega)]; rfl
   unfold I64 at hn hd
   have u1 : n.natAbs / Nat.gcd n.natAbs d.natAbs ≤ n.natAbs := Nat.div_le_self _ _
   have u2 : d.natAbs / Nat.gcd n.natAbs d.natAbs ≤ d.natAbs := Nat.div_le_self _ _
   rw [b3, asr_true, asr_true, tdivn (by omega), tdivn (by omega), ← Int.natCast_ediv, ← Int.natCast_ediv]
   generalize n.natAbs / Nat.gcd n.natAbs d.natAbs = A at *
   generalize d.natAbs / Nat.gcd n.natAbs d.natAbs = B at *
   rw [wu64 (n := (A : Int)) ⟨by omega, by omega⟩, wu64 (n := (B : Int)) ⟨by omega, by omega⟩, signed_eq (by omega) (by omega)]
   exact k
end Go.Pf.Vc
namespace Go.Pf.Vc
open Go Go.Pf
def numM (a c : Int) (b d : Int) : Nat := (a.natAbs / Nat.gcd a.natAbs d.natAbs) * (c.natAbs / Nat.gcd c.natAbs b.natAbs)
def denM (a c : Int) (b d : Int) : Nat := (b.natAbs / Nat.gcd c.natAbs b.natAbs) * (d.natAbs / Nat.gcd a.natAbs d.natAbs)
theorem Mul_of {a b c d : Int} (ha : I64 a) (hb : I64 b) (hc : I64 c) (hd : I64 d) {K : Int → Int → Int → Prop}
   (k : if chk2 a b c d = 0 then outS (decide (a < 0) != decide (c < 0)) (numM a c b d) (denM a c b d) K else K 0 0 (chk2 a b c d)) : w_ratio_Mul a b c d K := by
 unfold w_ratio_Mul wv_ratio_Mul
 refine check_of ha hb hc hd ?_
 by_cases h : chk2 a b c d = 0
 · rw [if_pos h] at k
   have : (chk2 a b c d != (0 : Int)) = false := by rw [h]; rfl
   rw [this, cbr_false, size_eq ha, size_eq hc]
   obtain ⟨⟨b1, b2, a1, a2, _⟩, d1, d2, c1, c2, _⟩ := chk2_zero.1 h
   have wb : IntKind.u64.wrap b = ((b.natAbs : Nat) : Int) := by rw [wu64 ⟨by omega, by omega⟩]; omega
   have wd : IntKind.u64.wrap d = ((d.natAbs : Nat) : Int) := by rw [wu64 ⟨by omega, by omega⟩]; omega
   rw [wb, wd]
   refine gcd_of _ _ _ (gcd_of _ _ _ ?_)
   unfold numM denM at k
   have g1 : 0 < Nat.gcd a.natAbs d.natAbs := Nat.gcd_pos_of_pos_right _ (by omega)
   have g2 : 0 < Nat.gcd c.natAbs b.natAbs := Nat.gcd_pos_of_pos_right _ (by omega)
   obtain ⟨g3, h3⟩ : ∃ g, g = Nat.gcd a.natAbs d.natAbs := ⟨_, rfl⟩
   obtain ⟨g4, h4⟩ : ∃ g, g = Nat.gcd c.natAbs b.natAbs := ⟨_, rfl⟩
   rw [← h3, ← h4] at k ⊢
   rw [← h3] at g1; rw [← h4] at g2
   have n3 : (!(decide ((g3 : Int) = (0 : Int)))) = true := by rw [decide_eq_false (by omega)]; rfl
   have n4 : (!(decide ((g4 : Int) = (0 : Int)))) = true := by rw [decide_eq_false (by omega)]; rfl
   rw [n3, n4, asr_true, asr_true, tdivn (by omega), tdivn (by omega), tdivn (by omega), tdivn (by omega), ← Int.natCast_ediv, ← Int.natCast_ediv, ← Int.natCast_ediv, ← Int.natCast_ediv]
   have q1 : a.natAbs / g3 ≤ a.natAbs := Nat.div_le_self _ _
   have q2 : c.natAbs / g4 ≤ c.natAbs := Nat.div_le_self _ _
   have q3 : b.natAbs / g4 ≤ b.natAbs := Nat.div_le_self _ _
   have q4 : d.natAbs / g3 ≤ d.natAbs := Nat.div_le_self _ _
   generalize a.natAbs / g3 = A at *
   generalize c.natAbs / g4 = C at *
   generalize b.natAbs / g4 = B at *
   generalize d.natAbs / g3 = D at *
   rw [wu64 (n := (A : Int)) ⟨by omega, by omega⟩, wu64 (n := (C : Int)) ⟨by omega, by omega⟩, wu64 (n := (B : Int)) ⟨by omega, by omega⟩, wu64 (n := (D : Int)) ⟨by omega, by omega⟩,
     Mul64_eq ⟨by omega, by omega⟩ ⟨by omega, by omega⟩, asr_true, asr_true, Mul64_eq ⟨by omega, by omega⟩ ⟨by omega, by omega⟩]
   have m1 : A * C ≤ 1000000000000000000 * 1000000000000000000 := Nat.mul_le_mul (by omega) (by omega)
   have m2 : B * D ≤ 1000000000000000000 * 1000000000000000000 := Nat.mul_le_mul (by omega) (by omega)
   rw [← Int.natCast_mul, ← Int.natCast_mul]
   generalize A * C = M at *
   generalize B * D = N at *
   have wm : IntKind.u64.wrap ((M : Int) / 18446744073709551616 + (N : Int) / 18446744073709551616) = (M : Int) / 18446744073709551616 + (N : Int) / 18446744073709551616 := wu64 ⟨by omega, by omega⟩
   rw [wm]
   by_cases hb : (M : Int) / 18446744073709551616 + (N : Int) / 18446744073709551616 > 0
   · rw [decide_eq_true hb, cbr_true]
     unfold outS at k
     rw [if_neg (by omega)] at k
     exact k
   · rw [decide_eq_false hb, cbr_false]
     have eM : (M : Int) % 18446744073709551616 = M := by omega
     have eN : (N : Int) % 18446744073709551616 = N := by omega
     rw [eM, eN]
     by_cases h0 : (M : Int) > 0
     · rw [decide_eq_true h0, cbr_true, signed_eq (by omega) (by omega)]
       exact k
     · rw [decide_eq_false h0, cbr_false, signed_eq (by omega) (by omega)]
       have hz : M = 0 := by omega
       subst hz
       unfold outS at k ⊢
       by_cases hN : (N : Int) ≤ 1000000000000000000
       · rw [if_pos ⟨by omega, hN⟩] at k ⊢
         have e : (if (decide (a < 0) != decide (c < 0)) = true then -((0 : Nat) : Int) else ((0 : Nat) : Int)) = 0 := by split <;> rfl
         rw [e] at k
         exact k
       · rw [if_neg (by omega)] at k ⊢
         exact k
 · rw [if_neg h] at k
   have : (chk2 a b c d != (0 : Int)) = true := by rw [bne_iff_ne]; exact h
   rw [this, cbr_true]
   exact k
theorem RV.swap {c d : Int} (h : RV c d) (h0 : 0 < c) : RV d c := by
 obtain ⟨d1, d2, c1, c2, g⟩ := h
 exact ⟨by omega, c2, by omega, d2, by rw [Nat.gcd_comm]; exact g⟩
theorem RV.swapn {c d : Int} (h : RV c d) (h0 : c < 0) : RV (-d) (-c) := by
 obtain ⟨d1, d2, c1, c2, g⟩ := h
 exact ⟨by omega, by omega, by omega, by omega, by rw [Int.natAbs_neg, Int.natAbs_neg, Nat.gcd_comm]; exact g⟩
theorem Div_of {a b c d : Int} (ha : I64 a) (hb : I64 b) (hc : I64 c) (hd : I64 d) {K : Int → Int → Int → Prop}
   (k : if chk2 a b c d = 0 then (if c = 0 then K 0 0 18 else outS (decide (a < 0) != decide (c < 0)) (numM a d b c) (denM a d b c) K) else K 0 0 (chk2 a b c d)) : w_ratio_Div a b c d K := by
 unfold w_ratio_Div wv_ratio_Div
 refine check_of ha hb hc hd ?_
 by_cases h : chk2 a b c d = 0
 · rw [if_pos h] at k
   have : (chk2 a b c d != (0 : Int)) = false := by rw [h]; rfl
   rw [this, cbr_false]
   obtain ⟨hab, hcd⟩ := chk2_zero.1 h
   obtain ⟨d1, d2, c1, c2, _⟩ := id hcd
   by_cases h0 : c = 0
   · rw [if_pos h0] at k
     have : (c == (0 : Int)) = true := beq_iff_eq.2 h0
     rw [this, cbr_true]
     exact k
   · rw [if_neg h0] at k
     have : (c == (0 : Int)) = false := beq_eq_false_iff_ne.2 h0
     rw [this, cbr_false]
     by_cases hn : c < 0
     · rw [decide_eq_true hn] at k
       rw [decide_eq_true hn, cbr_true, wi64 (n := 0 - d) ⟨by omega, by omega⟩, wi64 (n := 0 - c) ⟨by omega, by omega⟩, Int.zero_sub, Int.zero_sub]
       have e : chk2 a b (-d) (-c) = 0 := chk2_zero.2 ⟨hab, hcd.swapn hn⟩
       refine Mul_of ha hb ⟨by omega, by omega⟩ ⟨by omega, by omega⟩ ?_
       rw [if_pos e, decide_eq_true (show -d < 0 by omega)]
       unfold numM denM at k ⊢
       rw [Int.natAbs_neg, Int.natAbs_neg]
       exact k
     · rw [decide_eq_false hn] at k
       rw [decide_eq_false hn, cbr_false]
       have e : chk2 a b d c = 0 := chk2_zero.2 ⟨hab, hcd.swap (by omega)⟩
       refine Mul_of ha hb hd hc ?_
       rw [if_pos e, decide_eq_false (show ¬ d < 0 by omega)]
       exact k
 · rw [if_neg h] at k
   have : (chk2 a b c d != (0 : Int)) = true := by rw [bne_iff_ne]; exact h
   rw [this, cbr_true]
   exact k
end Go.Pf.Vc
namespace Go.Pf.Vc
open Go Go.Pf
theorem tail_of {s : Bool} {hi lo p1 p3 : Int} {g : Nat} (hh : U64 hi) (hl : U64 lo) (hg : 0 < g) (g1 : (g : Int) ≤ 1000000000000000000)
    (h1 : 0 ≤ p1 ∧ p1 ≤ 1000000000000000000) (h3 : 0 ≤ p3 ∧ p3 ≤ 1000000000000000000) {K : Int → Int → Int → Prop}
    (k : outS s (((hi * 18446744073709551616 + lo).toNat / Nat.gcd (hi * 18446744073709551616 + lo).toNat g : Nat) : Int)
      (((p1.toNat / g) * (p3.toNat / Nat.gcd (hi * 18446744073709551616 + lo).toNat g) : Nat) : Int) K) :
    (w_m_Rem64 hi lo (g : Int) (fun (yi12 : Int) => 
 (w_ratio_gcd yi12 (g : Int) (fun (yi13 : Int) => 
 (cbr (decide (hi ≥ yi13))
 (K (0 : Int) (0 : Int) (16 : Int))
 (w_m_Div64 hi lo yi13 (fun (yi14 : Int) (_ : Int) => 
 (asr (!(decide ((g : Int) = (0 : Int))))
 (asr (!(decide (yi13 = (0 : Int))))
 (w_m_Mul64 (IntKind.u64.wrap (Int.tdiv (IntKind.u64.wrap p1) (g : Int))) (IntKind.u64.wrap (Int.tdiv (IntKind.u64.wrap p3) yi13)) (fun (yi16 : Int) (yi17 : Int) => 
 (cbr (decide (yi16 > (0 : Int)))
 (K (0 : Int) (0 : Int) (16 : Int))
 (w_ratio_signed s yi14 yi17 (fun (yi18 : Int) (yi19 : Int) (yi20 : Int) => 
 (K yi18 yi19 yi20))))))))))))))) := by
  unfold U64 at hh hl
  obtain ⟨X, hX⟩ : ∃ X : Nat, X = (hi * 18446744073709551616 + lo).toNat := ⟨_, rfl⟩
  have eX : hi * 18446744073709551616 + lo = (X : Int) := by omega
  rw [← hX] at k
  refine Rem64_of hh hl ⟨by omega, by omega⟩ (by omega) ?_
  rw [eX, ← Int.natCast_emod]
  refine gcd_of _ _ _ ?_
  have eg : Nat.gcd (X % g) g = Nat.gcd X g := by rw [Nat.gcd_comm, Nat.gcd_comm X, Nat.gcd_rec g X, Nat.gcd_comm]
  rw [eg]
  have gp : 0 < Nat.gcd X g := Nat.gcd_pos_of_pos_right _ hg
  have gl : Nat.gcd X g ≤ g := Nat.le_of_dvd hg (Nat.gcd_dvd_right _ _)
  generalize Nat.gcd X g = G at *
  by_cases hb : hi ≥ (G : Int)
  · rw [decide_eq_true hb, cbr_true]
    unfold outS at k
    have : 18446744073709551616 ≤ X / G := by
      rw [Nat.le_div_iff_mul_le gp]
      omega
    rw [if_neg (by omega)] at k
    exact k
  · rw [decide_eq_false hb, cbr_false]
    refine Div64_of hh hl ⟨by omega, by omega⟩ (by omega) ?_
    rw [eX]
    have n3 : (!(decide ((g : Int) = (0 : Int)))) = true := by rw [decide_eq_false (by omega)]; rfl
    have n4 : (!(decide ((G : Int) = (0 : Int)))) = true := by rw [decide_eq_false (by omega)]; rfl
    have e1 : IntKind.u64.wrap p1 = (p1.toNat : Int) := by rw [wu64 ⟨by omega, by omega⟩]; omega
    have e3 : IntKind.u64.wrap p3 = (p3.toNat : Int) := by rw [wu64 ⟨by omega, by omega⟩]; omega
    rw [n3, n4, asr_true, asr_true, e1, e3, tdivn (by omega), tdivn (by omega), ← Int.natCast_ediv, ← Int.natCast_ediv, ← Int.natCast_ediv]
    have q1 : p1.toNat / g ≤ p1.toNat := Nat.div_le_self _ _
    have q3 : p3.toNat / G ≤ p3.toNat := Nat.div_le_self _ _
    generalize p1.toNat / g = A at *
    generalize p3.toNat / G = B at *
    generalize X / G = N at *
    rw [wu64 (n := (A : Int)) ⟨by omega, by omega⟩, wu64 (n := (B : Int)) ⟨by omega, by omega⟩, Mul64_eq ⟨by omega, by omega⟩ ⟨by omega, by omega⟩, ← Int.natCast_mul]
    generalize A * B = D at *
    by_cases hd : ((D : Int) / 18446744073709551616) > 0
    · rw [decide_eq_true hd, cbr_true]
      unfold outS at k
      rw [if_neg (by omega)] at k
      exact k
    · rw [decide_eq_false hd, cbr_false]
      have eD : (D : Int) % 18446744073709551616 = D := by omega
      rw [eD, signed_eq (by omega) (by omega)]
      exact k
end Go.Pf.Vc
namespace Go.Pf.Vc
open Go Go.Pf
theorem Add64_of {p q c : Int} {K : Int → Int → Prop} (hc : c.toNat ≤ 1) (k : K (((p.toNat + q.toNat + c.toNat) % 18446744073709551616 : Nat) : Int) (((p.toNat + q.toNat + c.toNat) / 18446744073709551616 : Nat) : Int)) : w_m_Add64 p q c K := by
 unfold w_m_Add64
 rw [decide_eq_true hc, asr_true]
 exact k
theorem Sub64_of {p q c : Int} {K : Int → Int → Prop} (hc : c.toNat ≤ 1) (k : K (((p.toNat + 18446744073709551616 - q.toNat - c.toNat) % 18446744073709551616 : Nat) : Int) ((if q.toNat + c.toNat ≤ p.toNat then 0 else 1 : Nat) : Int)) : w_m_Sub64 p q c K := by
 unfold w_m_Sub64
 rw [decide_eq_true hc, asr_true]
 have e : (bif Nat.ble (q.toNat + c.toNat) p.toNat then 0 else 1 : Nat) = (if q.toNat + c.toNat ≤ p.toNat then 0 else 1 : Nat) := by
   by_cases h : q.toNat + c.toNat ≤ p.toNat
   · rw [if_pos h, show Nat.ble (q.toNat + c.toNat) p.toNat = true from Nat.ble_eq_true_of_le h]; rfl
   · rw [if_neg h]
     cases hb : Nat.ble (q.toNat + c.toNat) p.toNat
     · rfl
     · exact absurd (Nat.le_of_ble_eq_true hb) h
 rw [e]
 exact k
theorem add_wide {X Y : Int} (hx : 0 ≤ X) (hy : 0 ≤ Y) (hs : X + Y < 340282366920938463463374607431768211456) {F : Int → Int → Int → Int → Prop}
   (h : ∀ c1 c2, F ((X + Y) % 18446744073709551616) c1 ((X + Y) / 18446744073709551616) c2) :
   w_m_Add64 (X % 18446744073709551616) (Y % 18446744073709551616) 0 (fun lo c1 => w_m_Add64 (X / 18446744073709551616) (Y / 18446744073709551616) c1 (fun hi c2 => F lo c1 hi c2)) := by
 obtain ⟨x, rfl⟩ : ∃ x : Nat, X = x := ⟨X.toNat, by omega⟩
 obtain ⟨y, rfl⟩ : ∃ y : Nat, Y = y := ⟨Y.toNat, by omega⟩
 refine Add64_of (by decide) (Add64_of (by omega) ?_)
 have e1 : (((((x : Int) % 18446744073709551616).toNat + ((y : Int) % 18446744073709551616).toNat + (0 : Int).toNat) % 18446744073709551616 : Nat) : Int) = ((x : Int) + y) % 18446744073709551616 := by omega
 have e2 : (((((x : Int) / 18446744073709551616).toNat + ((y : Int) / 18446744073709551616).toNat + (((((x : Int) % 18446744073709551616).toNat + ((y : Int) % 18446744073709551616).toNat + (0 : Int).toNat) / 18446744073709551616 : Nat) : Int).toNat) % 18446744073709551616 : Nat) : Int) = ((x : Int) + y) / 18446744073709551616 := by omega
 rw [e1, e2]
 exact h _ _
theorem sub_wide {X Y : Int} (hy : 0 ≤ Y) (hxy : Y ≤ X) (hs : X < 340282366920938463463374607431768211456) {F : Int → Int → Int → Int → Prop}
   (h : ∀ c1 c2, F ((X - Y) % 18446744073709551616) c1 ((X - Y) / 18446744073709551616) c2) :
   w_m_Sub64 (X % 18446744073709551616) (Y % 18446744073709551616) 0 (fun lo c1 => w_m_Sub64 (X / 18446744073709551616) (Y / 18446744073709551616) c1 (fun hi c2 => F lo c1 hi c2)) := by
 obtain ⟨x, rfl⟩ : ∃ x : Nat, X = x := ⟨X.toNat, by omega⟩
 obtain ⟨y, rfl⟩ : ∃ y : Nat, Y = y := ⟨Y.toNat, by omega⟩
 refine Sub64_of (by decide) (Sub64_of (by split <;> omega) ?_)
 have e1 : (((((x : Int) % 18446744073709551616).toNat + 18446744073709551616 - ((y : Int) % 18446744073709551616).toNat - (0 : Int).toNat) % 18446744073709551616 : Nat) : Int) = ((x : Int) - y) % 18446744073709551616 := by omega
 rw [e1]
 by_cases hb : ((y : Int) % 18446744073709551616).toNat + (0 : Int).toNat ≤ ((x : Int) % 18446744073709551616).toNat
 · rw [if_pos hb]
   have e2 : (((((x : Int) / 18446744073709551616).toNat + 18446744073709551616 - ((y : Int) / 18446744073709551616).toNat - ((0 : Nat) : Int).toNat) % 18446744073709551616 : Nat) : Int) = ((x : Int) - y) / 18446744073709551616 := by omega
   rw [e2]
   exact h _ _
 · rw [if_neg hb]
   have e2 : (((((x : Int) / 18446744073709551616).toNat + 18446744073709551616 - ((y : Int) / 18446744073709551616).toNat - ((1 : Nat) : Int).toNat) % 18446744073709551616 : Nat) : Int) = ((x : Int) - y) / 18446744073709551616 := by omega
   rw [e2]
   exact h _ _
end Go.Pf.Vc
namespace Go.Pf.Vc
open Go Go.Pf
def outA (s : Bool) (Z p1 p3 : Int) (g : Nat) (K : Int → Int → Int → Prop) : Prop :=
 if Z = 0 then K 0 1 0 else outS s ((Z.toNat / Nat.gcd Z.toNat g : Nat) : Int) (((p1.toNat / g) * (p3.toNat / Nat.gcd Z.toNat g) : Nat) : Int) K
theorem fin_of {s : Bool} {Z p1 p3 : Int} {g : Nat} (hz : 0 ≤ Z) (hz2 : Z < 340282366920938463463374607431768211456) (hg : 0 < g) (g1 : (g : Int) ≤ 1000000000000000000)
    (h1 : 0 ≤ p1 ∧ p1 ≤ 1000000000000000000) (h3 : 0 ≤ p3 ∧ p3 ≤ 1000000000000000000) {K : Int → Int → Int → Prop}
    (k : outA s Z p1 p3 g K) :
    cbr (Z / 18446744073709551616 == (0 : Int)) (cbr (Z % 18446744073709551616 == (0 : Int)) (K 0 1 0) (w_m_Rem64 (Z / 18446744073709551616) (Z % 18446744073709551616) (g : Int) (fun (yi12 : Int) => 
 (w_ratio_gcd yi12 (g : Int) (fun (yi13 : Int) => 
 (cbr (decide ((Z / 18446744073709551616) ≥ yi13))
 (K (0 : Int) (0 : Int) (16 : Int))
 (w_m_Div64 (Z / 18446744073709551616) (Z % 18446744073709551616) yi13 (fun (yi14 : Int) (_ : Int) => 
 (asr (!(decide ((g : Int) = (0 : Int))))
 (asr (!(decide (yi13 = (0 : Int))))
 (w_m_Mul64 (IntKind.u64.wrap (Int.tdiv (IntKind.u64.wrap p1) (g : Int))) (IntKind.u64.wrap (Int.tdiv (IntKind.u64.wrap p3) yi13)) (fun (yi16 : Int) (yi17 : Int) => 
 (cbr (decide (yi16 > (0 : Int)))
 (K (0 : Int) (0 : Int) (16 : Int))
 (w_ratio_signed s yi14 yi17 (fun (yi18 : Int) (yi19 : Int) (yi20 : Int) => 
 (K yi18 yi19 yi20)))))))))))))))) (w_m_Rem64 (Z / 18446744073709551616) (Z % 18446744073709551616) (g : Int) (fun (yi12 : Int) => 
 (w_ratio_gcd yi12 (g : Int) (fun (yi13 : Int) => 
 (cbr (decide ((Z / 18446744073709551616) ≥ yi13))
 (K (0 : Int) (0 : Int) (16 : Int))
 (w_m_Div64 (Z / 18446744073709551616) (Z % 18446744073709551616) yi13 (fun (yi14 : Int) (_ : Int) => 
 (asr (!(decide ((g : Int) = (0 : Int))))
 (asr (!(decide (yi13 = (0 : Int))))
 (w_m_Mul64 (IntKind.u64.wrap (Int.tdiv (IntKind.u64.wrap p1) (g : Int))) (IntKind.u64.wrap (Int.tdiv (IntKind.u64.wrap p3) yi13)) (fun (yi16 : Int) (yi17 : Int) => 
 (cbr (decide (yi16 > (0 : Int)))
 (K (0 : Int) (0 : Int) (16 : Int))
 (w_ratio_signed s yi14 yi17 (fun (yi18 : Int) (yi19 : Int) (yi20 : Int) => 
 (K yi18 yi19 yi20))))))))))))))) := by
  unfold outA at k
  have eZ : Z / 18446744073709551616 * 18446744073709551616 + Z % 18446744073709551616 = Z := by omega
  by_cases h0 : Z = 0
  · rw [if_pos h0] at k
    subst h0
    have e1 : ((0 : Int) / 18446744073709551616 == (0 : Int)) = true := by decide
    have e2 : ((0 : Int) % 18446744073709551616 == (0 : Int)) = true := by decide
    rw [e1, cbr_true, e2, cbr_true]
    exact k
  · rw [if_neg h0] at k
    have t := tail_of (s := s) (hi := Z / 18446744073709551616) (lo := Z % 18446744073709551616) (p1 := p1) (p3 := p3) (g := g) (K := K) ⟨by omega, by omega⟩ ⟨by omega, by omega⟩ hg g1 h1 h3 (by rw [eZ]; exact k)
    cases h4 : (Z / 18446744073709551616 == (0 : Int))
    · rw [cbr_false]; exact t
    · rw [cbr_true]
      cases h2 : (Z % 18446744073709551616 == (0 : Int))
      · rw [cbr_false]; exact t
      · have := beq_iff_eq.1 h2
        have := beq_iff_eq.1 h4
        exact absurd (show Z = 0 by omega) h0
theorem outA_congr {s s' : Bool} {Z Z' p1 p3 : Int} {g : Nat} {K : Int → Int → Int → Prop} (k : outA s' Z' p1 p3 g K) (hz : Z = Z') (hs : Z ≠ 0 → s = s') : outA s Z p1 p3 g K := by
 subst hz
 unfold outA at k ⊢
 by_cases h : Z = 0
 · rw [if_pos h] at k ⊢; exact k
 · rw [if_neg h] at k ⊢; rw [hs h]; exact k
theorem Add_of {a b c d : Int} (ha : I64 a) (hb : I64 b) (hc : I64 c) (hd : I64 d) {K : Int → Int → Int → Prop}
   (k : if chk2 a b c d = 0 then outA (decide (a * (d / (Nat.gcd b.natAbs d.natAbs : Nat)) + c * (b / (Nat.gcd b.natAbs d.natAbs : Nat)) < 0))
       ((a * (d / (Nat.gcd b.natAbs d.natAbs : Nat)) + c * (b / (Nat.gcd b.natAbs d.natAbs : Nat))).natAbs : Int) b d (Nat.gcd b.natAbs d.natAbs) K
     else K 0 0 (chk2 a b c d)) : w_ratio_Add a b c d K := by
 unfold w_ratio_Add wv_ratio_Add
 refine check_of ha hb hc hd ?_
 by_cases h : chk2 a b c d = 0
 · rw [if_pos h] at k
   have : (chk2 a b c d != (0 : Int)) = false := by rw [h]; rfl
   rw [this, cbr_false]
   obtain ⟨⟨b1, b2, a1, a2, _⟩, d1, d2, c1, c2, _⟩ := chk2_zero.1 h
   have wb : IntKind.u64.wrap b = ((b.natAbs : Nat) : Int) := by rw [wu64 ⟨by omega, by omega⟩]; omega
   have wd : IntKind.u64.wrap d = ((d.natAbs : Nat) : Int) := by rw [wu64 ⟨by omega, by omega⟩]; omega
   have g1 : 0 < Nat.gcd b.natAbs d.natAbs := Nat.gcd_pos_of_pos_right _ (by omega)
   have g2 : Nat.gcd b.natAbs d.natAbs ≤ d.natAbs := Nat.le_of_dvd (by omega) (Nat.gcd_dvd_right _ _)
   have go : w_ratio_gcd (IntKind.u64.wrap b) (IntKind.u64.wrap d) = w_ratio_gcd ((b.natAbs : Nat) : Int) ((d.natAbs : Nat) : Int) := by rw [wb, wd]
   rw [go]
   refine gcd_of _ _ _ ?_
   generalize Nat.gcd b.natAbs d.natAbs = g at *
   have n3 : (!(decide ((g : Int) = (0 : Int)))) = true := by rw [decide_eq_false (by omega)]; rfl
   have q1 : 0 ≤ b / (g : Int) := Int.ediv_nonneg (by omega) (by omega)
   have q2 : 0 ≤ d / (g : Int) := Int.ediv_nonneg (by omega) (by omega)
   have q3 : b / (g : Int) ≤ b := Int.ediv_le_self _ (by omega)
   have q4 : d / (g : Int) ≤ d := Int.ediv_le_self _ (by omega)
   have ed : IntKind.u64.wrap (Int.tdiv (IntKind.u64.wrap d) (g : Int)) = d / (g : Int) := by
     rw [wu64 (n := d) ⟨by omega, by omega⟩, tdivn (by omega), wu64 ⟨by omega, by omega⟩]
   have eb : IntKind.u64.wrap (Int.tdiv (IntKind.u64.wrap b) (g : Int)) = b / (g : Int) := by
     rw [wu64 (n := b) ⟨by omega, by omega⟩, tdivn (by omega), wu64 ⟨by omega, by omega⟩]
   have asr_of : ∀ {c : Bool} {P : Prop}, c = true → P → asr c P := fun h p => by rw [h, asr_true]; exact p
   rw [size_eq ha]
   refine asr_of n3 ?_
   rw [Mul64_eq (U64.abs ha) (by rw [ed]; exact ⟨by omega, by omega⟩), size_eq hc]
   refine asr_of n3 ?_
   rw [Mul64_eq (U64.abs hc) (by rw [eb]; exact ⟨by omega, by omega⟩)]
   obtain ⟨X, hX⟩ : ∃ X, X = ((a.natAbs : Nat) : Int) * IntKind.u64.wrap (Int.tdiv (IntKind.u64.wrap d) (g : Int)) := ⟨_, rfl⟩
   obtain ⟨Y, hY⟩ : ∃ Y, Y = ((c.natAbs : Nat) : Int) * IntKind.u64.wrap (Int.tdiv (IntKind.u64.wrap b) (g : Int)) := ⟨_, rfl⟩
   rw [← hX, ← hY]
   rw [ed] at hX; rw [eb] at hY
   have X0 : 0 ≤ X := by rw [hX]; exact Int.mul_nonneg (by omega) q2
   have Y0 : 0 ≤ Y := by rw [hY]; exact Int.mul_nonneg (by omega) q1
   have X1 : X ≤ 1000000000000000000 * 1000000000000000000 := by rw [hX]; exact Int.mul_le_mul (by omega) (by omega) q2 (by omega)
   have Y1 : Y ≤ 1000000000000000000 * 1000000000000000000 := by rw [hY]; exact Int.mul_le_mul (by omega) (by omega) q1 (by omega)
   have ax : a * (d / (g : Int)) = if a < 0 then -X else X := by
     split
     · rw [hX, show ((a.natAbs : Nat) : Int) = -a by omega, Int.neg_mul, Int.neg_neg]
     · rw [hX, show ((a.natAbs : Nat) : Int) = a by omega]
   have cy : c * (b / (g : Int)) = if c < 0 then -Y else Y := by
     split
     · rw [hY, show ((c.natAbs : Nat) : Int) = -c by omega, Int.neg_mul, Int.neg_neg]
     · rw [hY, show ((c.natAbs : Nat) : Int) = c by omega]
   rw [ax, cy] at k
   clear hX hY ax cy ed eb n3
   by_cases hs : decide (a < 0) = decide (c < 0)
   · have e : (decide (a < 0) == decide (c < 0)) = true := beq_iff_eq.2 hs
     rw [e, cbr_true]
     refine add_wide X0 Y0 (by omega) (fun c1 c2 => ?_)
     refine fin_of (by omega) (by omega) g1 (by omega) ⟨by omega, b2⟩ ⟨by omega, d2⟩ (outA_congr k ?_ ?_)
     · by_cases h1 : a < 0
       · have h2 : c < 0 := by simpa [h1] using hs.symm
         rw [if_pos h1, if_pos h2]; omega
       · have h2 : ¬ c < 0 := by simpa [h1] using hs.symm
         rw [if_neg h1, if_neg h2]; omega
     · intro h0
       by_cases h1 : a < 0
       · have h2 : c < 0 := by simpa [h1] using hs.symm
         rw [if_pos h1, if_pos h2, decide_eq_true h1, decide_eq_true (by omega)]
       · have h2 : ¬ c < 0 := by simpa [h1] using hs.symm
         rw [if_neg h1, if_neg h2, decide_eq_false h1, decide_eq_false (by omega)]
   · have e : (decide (a < 0) == decide (c < 0)) = false := beq_eq_false_iff_ne.2 hs
     rw [e, cbr_false]
     have h12 : (a < 0 ∧ ¬ c < 0) ∨ (¬ a < 0 ∧ c < 0) := by
       by_cases h1 : a < 0 <;> by_cases h2 : c < 0 <;> simp [h1, h2] at hs ⊢
     by_cases hlt : X < Y
     · have kk : outA (!decide (a < 0)) (Y - X) b d g K := by
         refine outA_congr k ?_ ?_
         · rcases h12 with ⟨h1, h2⟩ | ⟨h1, h2⟩
           · rw [if_pos h1, if_neg h2]; omega
           · rw [if_neg h1, if_pos h2]; omega
         · intro h0
           rcases h12 with ⟨h1, h2⟩ | ⟨h1, h2⟩
           · rw [if_pos h1, if_neg h2, decide_eq_true h1, decide_eq_false (by omega)]; rfl
           · rw [if_neg h1, if_pos h2, decide_eq_false h1, decide_eq_true (by omega)]; rfl
       by_cases h1 : X / 18446744073709551616 < Y / 18446744073709551616
       · rw [decide_eq_true h1, cbr_true]
         refine sub_wide X0 (by omega) (by omega) (fun c1 c2 => ?_)
         exact fin_of (by omega) (by omega) g1 (by omega) ⟨by omega, b2⟩ ⟨by omega, d2⟩ kk
       · have e1 : (X / 18446744073709551616 == Y / 18446744073709551616) = true := beq_iff_eq.2 (by omega)
         rw [decide_eq_false h1, cbr_false, e1, cbr_true, decide_eq_true (show X % 18446744073709551616 < Y % 18446744073709551616 by have := beq_iff_eq.1 e1; omega), cbr_true]
         refine sub_wide X0 (by omega) (by omega) (fun c1 c2 => ?_)
         exact fin_of (by omega) (by omega) g1 (by omega) ⟨by omega, b2⟩ ⟨by omega, d2⟩ kk
     · have kk : outA (decide (a < 0)) (X - Y) b d g K := by
         refine outA_congr k ?_ ?_
         · rcases h12 with ⟨h1, h2⟩ | ⟨h1, h2⟩
           · rw [if_pos h1, if_neg h2]; omega
           · rw [if_neg h1, if_pos h2]; omega
         · intro h0
           rcases h12 with ⟨h1, h2⟩ | ⟨h1, h2⟩
           · rw [if_pos h1, if_neg h2, decide_eq_true h1, decide_eq_true (by omega)]
           · rw [if_neg h1, if_pos h2, decide_eq_false h1, decide_eq_false (by omega)]
       have h1 : ¬ X / 18446744073709551616 < Y / 18446744073709551616 := by omega
       rw [decide_eq_false h1, cbr_false]
       cases e1 : (X / 18446744073709551616 == Y / 18446744073709551616)
       · rw [cbr_false]
         refine sub_wide Y0 (by omega) (by omega) (fun c1 c2 => ?_)
         exact fin_of (by omega) (by omega) g1 (by omega) ⟨by omega, b2⟩ ⟨by omega, d2⟩ kk
       · rw [cbr_true, decide_eq_false (show ¬ X % 18446744073709551616 < Y % 18446744073709551616 by have := beq_iff_eq.1 e1; omega), cbr_false]
         refine sub_wide Y0 (by omega) (by omega) (fun c1 c2 => ?_)
         exact fin_of (by omega) (by omega) g1 (by omega) ⟨by omega, b2⟩ ⟨by omega, d2⟩ kk
 · rw [if_neg h] at k
   have : (chk2 a b c d != (0 : Int)) = true := by rw [bne_iff_ne]; exact h
   rw [this, cbr_true]
   exact k
end Go.Pf.Vc
namespace Go.Pf.Vc
open Go Go.Pf
theorem RV.neg {c d : Int} (h : RV c d) : RV (-c) d := by
 obtain ⟨d1, d2, c1, c2, g⟩ := h
 exact ⟨d1, d2, by omega, by omega, by rw [Int.natAbs_neg]; exact g⟩
theorem Sub_of {a b c d : Int} (ha : I64 a) (hb : I64 b) (hc : I64 c) (hd : I64 d) {K : Int → Int → Int → Prop}
   (k : if chk2 a b c d = 0 then outA (decide (a * (d / (Nat.gcd b.natAbs d.natAbs : Nat)) + -c * (b / (Nat.gcd b.natAbs d.natAbs : Nat)) < 0))
       ((a * (d / (Nat.gcd b.natAbs d.natAbs : Nat)) + -c * (b / (Nat.gcd b.natAbs d.natAbs : Nat))).natAbs : Int) b d (Nat.gcd b.natAbs d.natAbs) K
     else K 0 0 (chk2 a b c d)) : w_ratio_Sub a b c d K := by
 unfold w_ratio_Sub wv_ratio_Sub
 refine check_of ha hb hc hd ?_
 by_cases h : chk2 a b c d = 0
 · rw [if_pos h] at k
   have : (chk2 a b c d != (0 : Int)) = false := by rw [h]; rfl
   rw [this, cbr_false]
   obtain ⟨hab, hcd⟩ := chk2_zero.1 h
   obtain ⟨d1, d2, c1, c2, _⟩ := id hcd
   rw [wi64 (n := 0 - c) ⟨by omega, by omega⟩, Int.zero_sub]
   refine Add_of ha hb ⟨by omega, by omega⟩ hd ?_
   rw [if_pos (chk2_zero.2 ⟨hab, hcd.neg⟩)]
   exact k
 · rw [if_neg h] at k
   have : (chk2 a b c d != (0 : Int)) = true := by rw [bne_iff_ne]; exact h
   rw [this, cbr_true]
   exact k
end Go.Pf.Vc
namespace Go.Pf.Vc
open Go Go.Pf
def ints (l : List Int) : List PV := l.map (PV.int .i64)
theorem ints_len (l : List Int) : (ints l).length = l.length := List.length_map ..
theorem ints_at {l : List Int} {i : Nat} (h : i < l.length) : List.getD (ints l) i .nils = .int .i64 (l.getD i 0) := by
 unfold ints
 rw [List.getD_eq_getElem?_getD, List.getD_eq_getElem?_getD, List.getElem?_map, List.getElem?_eq_getElem h]
 rfl
theorem ints_iv {l : List Int} {i : Nat} (h : i < l.length) : intOfV (List.getD (ints l) i .nils) = l.getD i 0 := by
 rw [ints_at h]; rfl
theorem ints_conf {l : List Int} {i : Nat} (h : i < l.length) : conf zI (List.getD (ints l) i .nils) = true := by
 rw [ints_at h]; rfl
theorem asr_of {c : Bool} {P : Prop} (h : c = true) (p : P) : asr c P := by rw [h, asr_true]; exact p
theorem asr_d {c : Prop} [Decidable c] {P : Prop} (h : c) (p : P) : asr (decide c) P := asr_of (decide_eq_true h) p
end Go.Pf.Vc
namespace Go.Pf.Vc
open Go Go.Pf
theorem cbr_d {c : Prop} [Decidable c] {P Q : Prop} (h : c) (p : P) : cbr (decide c) P Q := by rw [decide_eq_true h, cbr_true]; exact p
theorem cbr_n {c : Prop} [Decidable c] {P Q : Prop} (h : ¬ c) (q : Q) : cbr (decide c) P Q := by rw [decide_eq_false h, cbr_false]; exact q
def mnf (m x : Int) : Int := if x < m then x else m
theorem Min_loop {l : List Int} (hl : l.length < 9223372036854775807) (x0 : List PV → Int → Int → Bool → Prop) :
   ∀ (rest : List Int) (i : Nat) (m : Int) (n : Nat), l.drop i = rest → i ≤ l.length → rest.length < n → x0 (ints l) (rest.foldl mnf m) (l.length : Int) false →
     L_s_Min_int_int_0_0 x0 n (ints l) m (i : Int) := by
 intro rest
 induction rest with
 | nil =>
   intro i m n hd hi hn k
   have : i = l.length := by
     have := congrArg List.length hd
     rw [List.length_drop] at this
     have h2 : ([] : List Int).length = 0 := rfl
     omega
   match n, hn with
   | n + 1, _ =>
     unfold L_s_Min_int_int_0_0
     rw [ints_len, this]
     exact cbr_n (by omega) k
 | cons x t ih =>
   intro i m n hd hi hn k
   have hlt : i < l.length := by
     have := congrArg List.length hd
     rw [List.length_drop, List.length_cons] at this
     omega
   have hx : l.getD i 0 = x := by
     have := List.getElem_drop (xs := l) (i := i) (j := 0) (h := by rw [hd]; exact Nat.zero_lt_succ _)
     rw [List.getD_eq_getElem?_getD, List.getElem?_eq_getElem hlt]
     simp only [hd, List.getElem_cons_zero, Nat.add_zero] at this
     exact this.symm
   have ht : l.drop (i + 1) = t := by rw [← List.tail_drop, hd]; rfl
   match n, hn with
   | n + 1, hn =>
     unfold L_s_Min_int_int_0_0
     rw [ints_len]
     refine cbr_d (by omega) ?_
     refine asr_d (by omega) (asr_d (by omega) (asr_of (ints_conf (by omega)) ?_))
     rw [Int.toNat_natCast, ints_iv hlt, hx, wi64 (n := (i : Int) + 1) ⟨by omega, by omega⟩]
     exact ih (i + 1) _ n ht (by omega) (by rw [List.length_cons] at hn; omega) k
theorem Min_of {l : List Int} (hl : l.length < 9223372036854775807) {x : Int} {t : List Int} (e : l = x :: t) {K : Int → Prop} (k : K (t.foldl mnf x)) : w_s_Min_int_int (ints l) K := by
 have h0 : 0 < l.length := by rw [e]; exact Nat.zero_lt_succ _
 unfold w_s_Min_int_int wv_s_Min_int_int
 rw [ints_len]
 refine cbr_n (by omega) (asr_d (by omega) (asr_of (ints_conf h0) ⟨l.length + 1, ?_⟩))
 have e0 : l.getD 0 0 = x := by rw [e]; rfl
 rw [ints_iv h0, e0]
 refine Min_loop hl _ t 1 x _ (by rw [e]; rfl) (by omega) (by rw [e, List.length_cons]; omega) ?_
 exact k
def mxf (m x : Int) : Int := if x > m then x else m
theorem Max_loop {l : List Int} (hl : l.length < 9223372036854775807) (x0 : List PV → Int → Int → Bool → Prop) :
   ∀ (rest : List Int) (i : Nat) (m : Int) (n : Nat), l.drop i = rest → i ≤ l.length → rest.length < n → x0 (ints l) (rest.foldl mxf m) (l.length : Int) false →
     L_s_Max_int_int_0_0 x0 n (ints l) m (i : Int) := by
 intro rest
 induction rest with
 | nil =>
   intro i m n hd hi hn k
   have : i = l.length := by
     have := congrArg List.length hd
     rw [List.length_drop] at this
     have h2 : ([] : List Int).length = 0 := rfl
     omega
   match n, hn with
   | n + 1, _ =>
     unfold L_s_Max_int_int_0_0
     rw [ints_len, this]
     exact cbr_n (by omega) k
 | cons x t ih =>
   intro i m n hd hi hn k
   have hlt : i < l.length := by
     have := congrArg List.length hd
     rw [List.length_drop, List.length_cons] at this
     omega
   have hx : l.getD i 0 = x := by
     have := List.getElem_drop (xs := l) (i := i) (j := 0) (h := by rw [hd]; exact Nat.zero_lt_succ _)
     rw [List.getD_eq_getElem?_getD, List.getElem?_eq_getElem hlt]
     simp only [hd, List.getElem_cons_zero, Nat.add_zero] at this
     exact this.symm
   have ht : l.drop (i + 1) = t := by rw [← List.tail_drop, hd]; rfl
   match n, hn with
   | n + 1, hn =>
     unfold L_s_Max_int_int_0_0
     rw [ints_len]
     refine cbr_d (by omega) ?_
     refine asr_d (by omega) (asr_d (by omega) (asr_of (ints_conf (by omega)) ?_))
     rw [Int.toNat_natCast, ints_iv hlt, hx, wi64 (n := (i : Int) + 1) ⟨by omega, by omega⟩]
     exact ih (i + 1) _ n ht (by omega) (by rw [List.length_cons] at hn; omega) k
theorem Max_of {l : List Int} (hl : l.length < 9223372036854775807) {x : Int} {t : List Int} (e : l = x :: t) {K : Int → Prop} (k : K (t.foldl mxf x)) : w_s_Max_int_int (ints l) K := by
 have h0 : 0 < l.length := by rw [e]; exact Nat.zero_lt_succ _
 unfold w_s_Max_int_int wv_s_Max_int_int
 rw [ints_len]
 refine cbr_n (by omega) (asr_d (by omega) (asr_of (ints_conf h0) ⟨l.length + 1, ?_⟩))
 have e0 : l.getD 0 0 = x := by rw [e]; rfl
 rw [ints_iv h0, e0]
 refine Max_loop hl _ t 1 x _ (by rw [e]; rfl) (by omega) (by rw [e, List.length_cons]; omega) ?_
 exact k
end Go.Pf.Vc
namespace Go.Pf.Vc
open Go Go.Pf
def incr (l : List Int) (i : Nat) : Prop := ∀ j, i ≤ j → j + 1 < l.length → l.getD j 0 < l.getD (j + 1) 0
theorem Check_loop {l : List Int} {p2 : List PV} {p0 : Int} (hl : l.length < 9223372036854775807) (W1 W2 : List PV → (Int → Prop) → Prop) (x0 : Int → Prop) (x1 : Int → List PV → List PV → Int → Int → Bool → Prop) :
   ∀ (r i n : Nat), i + r + 1 = l.length → r < n → (incr l i → x1 p0 (ints l) p2 ((l.length : Int) - 1) ((l.length : Int) - 1) false) → (¬ incr l i → x0 8) →
     L_cake_Check_0_0 W1 W2 x0 x1 n p0 (ints l) p2 ((l.length : Int) - 1) (i : Int) := by
 intro r
 induction r with
 | zero =>
   intro i n hi hn k _
   match n, hn with
   | n + 1, _ =>
     unfold L_cake_Check_0_0
     have e : (i : Int) = (l.length : Int) - 1 := by omega
     refine cbr_n (by omega) ?_
     rw [e]
     exact k (fun j h1 h2 => by omega)
 | succ r ih =>
   intro i n hi hn k k0
   match n, hn with
   | n + 1, hn =>
     unfold L_cake_Check_0_0
     rw [wi64 (n := (i : Int) + 1) ⟨by omega, by omega⟩, ints_len]
     have e1 : ((i : Int) + 1) = ((i + 1 : Nat) : Int) := by omega
     rw [e1, Int.toNat_natCast, Int.toNat_natCast]
     refine cbr_d (by omega) (asr_d (by omega) (asr_d (by omega) (asr_of (ints_conf (by omega)) (asr_d (by omega) (asr_d (by omega) (asr_of (ints_conf (by omega)) ?_))))))
     rw [ints_iv (by omega), ints_iv (by omega)]
     by_cases h : l.getD i 0 ≥ l.getD (i + 1) 0
     · exact cbr_d h (k0 fun hc => absurd (hc i (Nat.le_refl _) (by omega)) (by omega))
     · refine cbr_n h (ih (i + 1) n (by omega) (by omega) (fun hc => k fun j h1 h2 => ?_) (fun hc => k0 fun hd => hc fun j h1 h2 => hd j (by omega) h2))
       by_cases hj : j = i
       · subst hj; omega
       · exact hc j (by omega) h2
end Go.Pf.Vc
namespace Go.Pf.Vc
open Go Go.Pf
def small (q : Rat) : Prop := -1000000000000000000 ≤ q.num ∧ q.num ≤ 1000000000000000000 ∧ (q.den : Int) ≤ 1000000000000000000
instance (q : Rat) : Decidable (small q) := by unfold small; infer_instance
theorem small.rv {q : Rat} (h : small q) : RV q.num q.den := by
 obtain ⟨h1, h2, h3⟩ := h
 have := q.den_pos
 exact ⟨by omega, h3, h1, h2, q.reduced⟩
theorem rv_rat {n d : Int} (h : RV n d) : ∃ q : Rat, small q ∧ q.num = n ∧ (q.den : Int) = d := by
 obtain ⟨h1, h2, h3, h4, h5⟩ := h
 refine ⟨⟨n, d.toNat, by omega, ?_⟩, ⟨h3, h4, by show ((d.toNat : Nat) : Int) ≤ _; omega⟩, rfl, by show ((d.toNat : Nat) : Int) = _; omega⟩
 have : d.natAbs = d.toNat := by omega
 rw [this] at h5
 exact h5
theorem small.i1 {q : Rat} (h : small q) : I64 q.num := ⟨by have := h.1; omega, by have := h.2.1; omega⟩
theorem small.i2 {q : Rat} (h : small q) : I64 (q.den : Int) := ⟨by omega, by have := h.2.2; omega⟩
theorem small_chk2 {q r : Rat} (h : small q) (k : small r) : chk2 q.num q.den r.num r.den = 0 := chk2_zero.2 ⟨h.rv, k.rv⟩
def fitK (q : Rat) (K : Int → Int → Int → Prop) : Prop := if small q then K q.num q.den 0 else K 0 0 16
theorem outS_fit {q : Rat} {s : Bool} {a b : Int} (ha : a = (q.num.natAbs : Int)) (hb : b = (q.den : Int)) (hs : q.num ≠ 0 → s = decide (q.num < 0)) (K : Int → Int → Int → Prop) : outS s a b K = fitK q K := by
 unfold outS fitK
 subst ha hb
 by_cases h : small q
 · have h' := h
   obtain ⟨h1, h2, h3⟩ := h
   rw [if_pos (show _ ∧ _ from ⟨by omega, h3⟩), if_pos h']
   have e : (if s = true then -((q.num.natAbs : Nat) : Int) else ((q.num.natAbs : Nat) : Int)) = q.num := by
     by_cases h0 : q.num = 0
     · rw [h0]; cases s <;> rfl
     · rw [hs h0]
       by_cases h1 : q.num < 0
       · rw [decide_eq_true h1, if_pos rfl]; omega
       · rw [decide_eq_false h1, if_neg (by simp)]; omega
   rw [e]
 · rw [if_neg h, if_neg]
   intro h2
   exact h ⟨by omega, by omega, h2.2⟩
theorem tdiv_nat (x : Int) (g : Nat) : (Int.tdiv x g).natAbs = x.natAbs / g := by rw [Int.natAbs_tdiv, Int.natAbs_natCast]; rfl
theorem sign_tdiv {x : Int} {g : Nat} (h : (g : Int) ∣ x) (hx : x ≠ 0) : decide (Int.tdiv x g < 0) = decide (x < 0) := by
 obtain ⟨k, rfl⟩ := h
 have hg : (g : Int) ≠ 0 := fun e => hx (by rw [e, Int.zero_mul])
 rw [Int.mul_tdiv_cancel_left _ hg]
 have h1 : (g : Int) > 0 := by have := Int.natCast_nonneg g; omega
 have : (g : Int) * k < 0 ↔ k < 0 := by
   constructor
   · intro h; refine Int.not_le.1 fun hk => ?_
     have := Int.mul_nonneg (show 0 ≤ (g : Int) by omega) hk
     omega
   · intro h; exact Int.mul_neg_of_pos_of_neg h1 h
 simp only [this]
theorem mul_parts (q r : Rat) : (q * r).num = Int.tdiv q.num (Nat.gcd q.num.natAbs r.den) * Int.tdiv r.num (Nat.gcd r.num.natAbs q.den) ∧
   (q * r).den = (q.den / Nat.gcd r.num.natAbs q.den) * (r.den / Nat.gcd q.num.natAbs r.den) := by
 have e : q * r = Rat.mul q r := rfl
 rw [e]
 delta Rat.mul
 constructor
 · simp only [Int.divExact_eq_tdiv]
 · simp only [Nat.divExact_eq_div]
theorem dvd_gcd_l (x : Int) (d : Nat) : ((Nat.gcd x.natAbs d : Nat) : Int) ∣ x := by
 rw [← Int.dvd_natAbs, Int.ofNat_dvd]; exact Nat.gcd_dvd_left _ _
theorem tdiv_ne {x : Int} {g : Nat} (h : (g : Int) ∣ x) (hx : x ≠ 0) : Int.tdiv x g ≠ 0 := by
 obtain ⟨k, rfl⟩ := h
 have hg : (g : Int) ≠ 0 := fun e => hx (by rw [e, Int.zero_mul])
 rw [Int.mul_tdiv_cancel_left _ hg]
 intro e; rw [e, Int.mul_zero] at hx; exact hx rfl
theorem sign_mul {x y : Int} (hx : x ≠ 0) (hy : y ≠ 0) : decide (x * y < 0) = (decide (x < 0) != decide (y < 0)) := by
 by_cases h1 : x < 0 <;> by_cases h2 : y < 0
 · have := Int.mul_pos_of_neg_of_neg h1 h2
   simp [h1, h2]; omega
 · have := Int.mul_neg_of_neg_of_pos h1 (show 0 < y by omega)
   simp [h1, h2]; omega
 · have := Int.mul_neg_of_pos_of_neg (show 0 < x by omega) h2
   simp [h1, h2]; omega
 · have := Int.mul_pos (show 0 < x by omega) (show 0 < y by omega)
   simp [h1, h2]; omega
theorem mul_fit (q r : Rat) (K : Int → Int → Int → Prop) : outS (decide (q.num < 0) != decide (r.num < 0)) (numM q.num r.num q.den r.den) (denM q.num r.num q.den r.den) K = fitK (q * r) K := by
 obtain ⟨e1, e2⟩ := mul_parts q r
 refine outS_fit ?_ ?_ ?_ K
 · rw [e1, Int.natAbs_mul, tdiv_nat, tdiv_nat]
   simp only [numM, Int.natAbs_natCast]
 · rw [e2]
   simp only [denM, Int.natAbs_natCast]
 · intro h
   rw [e1] at h ⊢
   have h1 : q.num ≠ 0 := fun e => h (by rw [e, Int.zero_tdiv, Int.zero_mul])
   have h2 : r.num ≠ 0 := fun e => h (by rw [e, Int.zero_tdiv, Int.mul_zero])
   rw [sign_mul (tdiv_ne (dvd_gcd_l _ _) h1) (tdiv_ne (dvd_gcd_l _ _) h2), sign_tdiv (dvd_gcd_l _ _) h1, sign_tdiv (dvd_gcd_l _ _) h2]
theorem det_fit {w : (Int → Int → Int → Prop) → Prop} {q : Rat} (det : ∀ r0 r1 r2, (∀ K : Int → Int → Int → Prop, K r0 r1 r2 → w K) → ∀ K, w K = K r0 r1 r2) (h : ∀ K, fitK q K → w K) (K : Int → Int → Int → Prop) : w K = fitK q K := by
 unfold fitK at h ⊢
 by_cases hs : small q
 · simp only [if_pos hs] at h ⊢
   exact det _ _ _ h K
 · simp only [if_neg hs] at h ⊢
   exact det _ _ _ h K
theorem rMul_eq {q r : Rat} (hq : small q) (hr : small r) (K : Int → Int → Int → Prop) : w_ratio_Mul q.num q.den r.num r.den K = fitK (q * r) K :=
 det_fit (fun r0 r1 r2 h K => det_ratio_Mul _ _ _ _ r0 r1 r2 h K) (fun K k => Mul_of hq.i1 hq.i2 hr.i1 hr.i2 (by rw [if_pos (small_chk2 hq hr), mul_fit]; exact k)) K
theorem inv_parts {r : Rat} (h : r ≠ 0) : (r⁻¹).num = (if r.num < 0 then -(r.den : Int) else r.den) ∧ (r⁻¹).den = r.num.natAbs := by
 have h0 : r.num ≠ 0 := fun e => h (Rat.num_eq_zero.1 e)
 constructor
 · rw [Rat.num_inv]
   by_cases h1 : r.num < 0
   · rw [if_pos h1, Int.sign_eq_neg_one_of_neg h1]; omega
   · rw [if_neg h1, Int.sign_eq_one_of_pos (by omega)]; omega
 · rw [Rat.den_inv, if_neg h0]
theorem rDiv_eq {q r : Rat} (hq : small q) (hr : small r) (h0 : r ≠ 0) (K : Int → Int → Int → Prop) : w_ratio_Div q.num q.den r.num r.den K = fitK (q / r) K := by
 have hn : r.num ≠ 0 := fun e => h0 (Rat.num_eq_zero.1 e)
 refine det_fit (fun r0 r1 r2 h K => det_ratio_Div _ _ _ _ r0 r1 r2 h K) (fun K k => Div_of hq.i1 hq.i2 hr.i1 hr.i2 ?_) K
 rw [if_pos (small_chk2 hq hr), if_neg hn]
 rw [Rat.div_def, ← mul_fit] at k
 obtain ⟨e1, e2⟩ := inv_parts h0
 rw [e1, e2] at k
 have s : decide ((if r.num < 0 then -(r.den : Int) else (r.den : Int)) < 0) = decide (r.num < 0) := by
   have := r.den_pos
   split
   · rename_i h; simp only [h]; simp; omega
   · rename_i h; simp only [h]; simp
 rw [s] at k
 have hd : (if r.num < 0 then -(r.den : Int) else (r.den : Int)).natAbs = r.den := by split <;> omega
 unfold numM denM at k ⊢
 simp only [hd, Int.natAbs_natCast] at k ⊢
 exact k
end Go.Pf.Vc
namespace Go.Pf.Vc
open Go Go.Pf
theorem add_parts (q r : Rat) : (q + r).num = (q.num * (r.den / Nat.gcd q.den r.den : Nat) + r.num * (q.den / Nat.gcd q.den r.den : Nat)) / (Nat.gcd (q.num * (r.den / Nat.gcd q.den r.den : Nat) + r.num * (q.den / Nat.gcd q.den r.den : Nat)).natAbs (Nat.gcd q.den r.den) : Nat) ∧
   (q + r).den = (q.den / Nat.gcd q.den r.den) * r.den / Nat.gcd (q.num * (r.den / Nat.gcd q.den r.den : Nat) + r.num * (q.den / Nat.gcd q.den r.den : Nat)).natAbs (Nat.gcd q.den r.den) := by
 have e : q + r = Rat.add q r := rfl
 rw [e]
 delta Rat.add
 by_cases hg : q.den.gcd r.den = 1
 · simp only [hg, dif_pos, Nat.div_one, Nat.gcd_one_right, Int.natCast_one, Int.ediv_one, and_self]
 · simp only [hg, dif_neg, not_false_eq_true, Rat.maybeNormalize_eq]
   constructor
   · first | rfl | simp only [Int.divExact_eq_tdiv]
   · first | rfl | simp only []
theorem outA_fit {q r : Rat} {Z : Int} {g : Nat} (e1 : (q + r).num = Z / (Nat.gcd Z.natAbs g : Nat)) (e2 : (q + r).den = (q.den / g) * r.den / Nat.gcd Z.natAbs g) (hgp : 0 < g) (hgd : g ∣ r.den) (K : Int → Int → Int → Prop) :
   outA (decide (Z < 0)) (Z.natAbs : Int) q.den r.den g K = fitK (q + r) K := by
 unfold outA
 by_cases h0 : Z = 0
 · subst h0
   have : (q + r) = 0 := by
     apply Rat.num_eq_zero.1
     rw [e1]; simp
   rw [this, if_pos (by rfl)]
   unfold fitK
   rw [if_pos (by decide)]; rfl
 · have hne : ¬ ((Z.natAbs : Nat) : Int) = 0 := by omega
   rw [if_neg hne]
   have hdv : ((Nat.gcd Z.natAbs g : Nat) : Int) ∣ Z := dvd_gcd_l _ _
   have hhp : 0 < Nat.gcd Z.natAbs g := Nat.gcd_pos_of_pos_right _ hgp
   have hhg : Nat.gcd Z.natAbs g ∣ r.den := Nat.dvd_trans (Nat.gcd_dvd_right _ _) hgd
   refine outS_fit ?_ ?_ ?_ K
   · rw [e1, Int.natAbs_ediv_of_dvd hdv]; simp
   · rw [e2]; simp only [Int.toNat_natCast]; rw [Nat.mul_div_assoc _ hhg]
   · intro h
     rw [e1]
     obtain ⟨k, hk⟩ := hdv
     revert hhp hk
     generalize Nat.gcd Z.natAbs g = h
     intro hhp hk
     have e : Z / (h : Int) = k := by rw [hk, Int.mul_ediv_cancel_left _ (by omega)]
     rw [e]
     have : Z < 0 ↔ k < 0 := by
       rw [hk]
       constructor
       · intro hk; refine Int.not_le.1 fun hk2 => ?_
         have := Int.mul_nonneg (show 0 ≤ (h : Int) by omega) hk2
         omega
       · intro hk; exact Int.mul_neg_of_pos_of_neg (by omega) hk
     simp only [this]
theorem add_fit (q r : Rat) (K : Int → Int → Int → Prop) :
   outA (decide (q.num * ((r.den : Int) / (Nat.gcd (q.den : Int).natAbs (r.den : Int).natAbs : Nat)) + r.num * ((q.den : Int) / (Nat.gcd (q.den : Int).natAbs (r.den : Int).natAbs : Nat)) < 0))
     ((q.num * ((r.den : Int) / (Nat.gcd (q.den : Int).natAbs (r.den : Int).natAbs : Nat)) + r.num * ((q.den : Int) / (Nat.gcd (q.den : Int).natAbs (r.den : Int).natAbs : Nat))).natAbs : Int) q.den r.den (Nat.gcd (q.den : Int).natAbs (r.den : Int).natAbs) K = fitK (q + r) K := by
 obtain ⟨e1, e2⟩ := add_parts q r
 rw [Int.natCast_ediv, Int.natCast_ediv] at e1 e2
 exact outA_fit e1 e2 (Nat.gcd_pos_of_pos_left _ q.den_pos) (Nat.gcd_dvd_right _ _) K
theorem rAdd_eq {q r : Rat} (hq : small q) (hr : small r) (K : Int → Int → Int → Prop) : w_ratio_Add q.num q.den r.num r.den K = fitK (q + r) K :=
 det_fit (fun r0 r1 r2 h K => det_ratio_Add _ _ _ _ r0 r1 r2 h K) (fun K k => Add_of hq.i1 hq.i2 hr.i1 hr.i2 (by rw [if_pos (small_chk2 hq hr), add_fit]; exact k)) K
theorem rSub_eq {q r : Rat} (hq : small q) (hr : small r) (K : Int → Int → Int → Prop) : w_ratio_Sub q.num q.den r.num r.den K = fitK (q - r) K :=
 det_fit (fun r0 r1 r2 h K => det_ratio_Sub _ _ _ _ r0 r1 r2 h K) (fun K k => Sub_of hq.i1 hq.i2 hr.i1 hr.i2 (by
   rw [if_pos (small_chk2 hq hr)]
   rw [Rat.sub_eq_add_neg, ← add_fit] at k
   exact k)) K
theorem make_fit {n d : Int} (hd : d ≠ 0) (K : Int → Int → Int → Prop) : outS (decide (n < 0) != decide (d < 0)) ((n.natAbs / Nat.gcd n.natAbs d.natAbs : Nat) : Int) ((d.natAbs / Nat.gcd n.natAbs d.natAbs : Nat) : Int) K = fitK ((n : Rat) / (d : Rat)) K := by
 have e : (n : Rat) / (d : Rat) = mkRat (if d < 0 then -n else n) d.natAbs := by
   rw [Rat.mkRat_eq_div]
   split
   · rename_i h
     have h1 : ((d.natAbs : Nat) : Int) = -d := by omega
     have h2 : ((d.natAbs : Nat) : Rat) = -(d : Rat) := by rw [← Rat.intCast_natCast, h1, Rat.intCast_neg]
     rw [h2, Rat.intCast_neg]
     have h3 : (d : Rat) ≠ 0 := fun e => hd (Rat.intCast_eq_zero_iff.1 e)
     grind
   · rename_i h
     have h1 : ((d.natAbs : Nat) : Int) = d := by omega
     have h2 : ((d.natAbs : Nat) : Rat) = (d : Rat) := by rw [← Rat.intCast_natCast, h1]
     rw [h2]
 have h0 : d.natAbs ≠ 0 := by omega
 have hab : (if d < 0 then -n else n).natAbs = n.natAbs := by split <;> omega
 rw [e]
 refine outS_fit ?_ ?_ ?_ K
 · rw [Rat.num_mkRat, if_neg h0, hab, Int.natAbs_ediv_of_dvd, Int.natAbs_natCast, hab, Nat.gcd_comm]
   rw [← Int.dvd_natAbs, Int.ofNat_dvd, hab]; exact Nat.gcd_dvd_right _ _
 · rw [Rat.den_mkRat, if_neg h0, hab, Nat.gcd_comm]
 · rw [Rat.num_mkRat, if_neg h0, hab]
   have hdv : ((Nat.gcd d.natAbs n.natAbs : Nat) : Int) ∣ (if d < 0 then -n else n) := by
     rw [← Int.dvd_natAbs, Int.ofNat_dvd, hab]; exact Nat.gcd_dvd_right _ _
   have hp : 0 < Nat.gcd d.natAbs n.natAbs := Nat.gcd_pos_of_pos_left _ (by omega)
   obtain ⟨k, hk⟩ := hdv
   rw [hk, Int.mul_ediv_cancel_left _ (by omega)]
   intro hk0
   generalize Nat.gcd d.natAbs n.natAbs = g at *
   have h1 : (g : Int) * k < 0 ↔ k < 0 := by
     constructor
     · intro hk; refine Int.not_le.1 fun hk2 => ?_
       have := Int.mul_nonneg (show 0 ≤ (g : Int) by omega) hk2
       omega
     · intro hk; exact Int.mul_neg_of_pos_of_neg (by omega) hk
   have h2 : (g : Int) * k ≠ 0 := fun e => by rcases Int.mul_eq_zero.1 e with e | e <;> omega
   by_cases hd2 : d < 0
   · rw [if_pos hd2] at hk
     by_cases hn : n < 0
     · have : ¬ k < 0 := by omega
       simp [hd2, hn, this]
     · have : k < 0 := by omega
       simp [hd2, this]; omega
   · rw [if_neg hd2] at hk
     by_cases hn : n < 0
     · have : k < 0 := by omega
       simp [hd2, hn, this]
     · have : ¬ k < 0 := by omega
       simp [hd2, this]; omega
theorem rMake_eq {n d : Int} (hn : I64 n) (hd : I64 d) (h0 : d ≠ 0) (K : Int → Int → Int → Prop) : w_ratio_Make n d K = fitK ((n : Rat) / (d : Rat)) K :=
 det_fit (fun r0 r1 r2 h K => det_ratio_Make _ _ r0 r1 r2 h K) (fun K k => Make_of hn hd (by rw [if_neg h0, make_fit h0]; exact k)) K
def cmpQ (q r : Rat) : Int := if q < r then -1 else if r < q then 1 else 0
theorem cmpR_eq (q r : Rat) : cmpR q.num q.den r.num r.den = cmpQ q r := by
 unfold cmpR cmp3 cmpQ
 simp only [Rat.lt_iff]
theorem rCmp_eq {q r : Rat} (hq : small q) (hr : small r) (K : Int → Int → Prop) : w_ratio_Cmp q.num q.den r.num r.den K = K (cmpQ q r) 0 :=
 det_ratio_Cmp _ _ _ _ _ _ (fun K k => Cmp_of hq.i1 hq.i2 hr.i1 hr.i2 (by rw [small_chk2 hq hr, if_pos rfl, cmpR_eq]; exact k)) K
theorem rCheck_eq {n d : Int} (hn : I64 n) (hd : I64 d) (K : Int → Prop) : w_ratio_Check n d K = K (chk n d) :=
 det_ratio_Check _ _ _ (fun _ k => Check_of hn hd k) K
end Go.Pf.Vc
namespace Go.Pf.Vc
open Go Go.Pf
theorem bne_f {a b : Int} (h : a = b) : (a != b) = false := by simp [h]
theorem bne_t {a b : Int} (h : a ≠ b) : (a != b) = true := by simp [h]
theorem beq_f {a b : Int} (h : a ≠ b) : (a == b) = false := by simp [h]
theorem beq_t {a b : Int} (h : a = b) : (a == b) = true := by simp [h]
end Go.Pf.Vc
namespace Go.Pf.Vc
open Go Go.Pf
theorem cbT {c : Prop} [Decidable c] {P Q : Prop} (h : c) : cbr (decide c) P Q = P := by rw [decide_eq_true h, cbr_true]
theorem cbF {c : Prop} [Decidable c] {P Q : Prop} (h : ¬ c) : cbr (decide c) P Q = Q := by rw [decide_eq_false h, cbr_false]
theorem cnT {a b : Int} {P Q : Prop} (h : a ≠ b) : cbr (a != b) P Q = P := by rw [bne_t h, cbr_true]
theorem cnF {a b : Int} {P Q : Prop} (h : a = b) : cbr (a != b) P Q = Q := by rw [bne_f h, cbr_false]
theorem ceT {a b : Int} {P Q : Prop} (h : a = b) : cbr (a == b) P Q = P := by rw [beq_t h, cbr_true]
theorem ceF {a b : Int} {P Q : Prop} (h : a ≠ b) : cbr (a == b) P Q = Q := by rw [beq_f h, cbr_false]
theorem asT {c : Prop} [Decidable c] {P : Prop} (h : c) : asr (decide c) P = P := by rw [decide_eq_true h, asr_true]
theorem asC {l : List Int} {i : Nat} {P : Prop} (h : i < l.length) : asr (conf zI (List.getD (ints l) i .nils)) P = P := by rw [ints_conf h, asr_true]
theorem wib {n : Int} (h1 : -9223372036854775808 ≤ n) (h2 : n ≤ 9223372036854775807) : IntKind.i64.wrap n = n := wi64 ⟨h1, h2⟩
theorem cast1 (i : Nat) : (i : Int) + 1 = ((i + 1 : Nat) : Int) := by omega
theorem small_int {x : Int} (h : -1000000000000000000 ≤ x ∧ x ≤ 1000000000000000000) : small (x : Rat) := by
 unfold small
 rw [Rat.num_intCast, Rat.den_intCast]
 omega
def allD (dens : List Int) : Prop := ∀ d ∈ dens, 0 ≤ d ∧ d ≤ 12
def someD (dens : List Int) : Prop := ∃ d ∈ dens, 0 < d
instance (l : List Int) : Decidable (allD l) := by unfold allD; infer_instance
instance (l : List Int) : Decidable (someD l) := by unfold someD; infer_instance
def VC (len : Int) (cuts dens : List Int) : Prop :=
 1 ≤ len ∧ len ≤ 1000 ∧ 2 ≤ cuts.length ∧ cuts.length ≤ 40 ∧ dens.length + 1 = cuts.length ∧ cuts.getD 0 0 = 0 ∧ cuts.getD (cuts.length - 1) 0 = len ∧ incr cuts 0 ∧ allD dens ∧ someD dens
theorem incr_iff (l : List Int) : incr l 0 ↔ ∀ j, j < l.length → j + 1 < l.length → l.getD j 0 < l.getD (j + 1) 0 := ⟨fun h j _ h2 => h j (by omega) h2, fun h j _ h2 => h j (by omega) h2⟩
instance (l : List Int) : Decidable (incr l 0) := decidable_of_iff _ (incr_iff l).symm
instance (len : Int) (cuts dens : List Int) : Decidable (VC len cuts dens) := by unfold VC; infer_instance
def ckC (len : Int) (cuts dens : List Int) : Int := if len > 1000 ∨ cuts.length > 40 then 4 else if VC len cuts dens then 0 else 8
theorem mnf_all (l : List Int) (x : Int) : (l.foldl mnf x < 0) ↔ ¬ (∀ d ∈ x :: l, 0 ≤ d) := by
 induction l generalizing x with
 | nil => simp
 | cons y t ih =>
   rw [List.foldl_cons, ih]
   unfold mnf
   simp only [List.forall_mem_cons]
   split
   · constructor
     · intro h h2; exact h ⟨h2.2.1, h2.2.2⟩
     · intro h h2; exact h ⟨by omega, h2.1, h2.2⟩
   · constructor
     · intro h h2; exact h ⟨h2.1, h2.2.2⟩
     · intro h h2; exact h ⟨h2.1, by omega, h2.2⟩
theorem mxf_all (l : List Int) (x k : Int) : (l.foldl mxf x > k) ↔ ¬ (∀ d ∈ x :: l, d ≤ k) := by
 induction l generalizing x with
 | nil => simp
 | cons y t ih =>
   rw [List.foldl_cons, ih]
   unfold mxf
   simp only [List.forall_mem_cons]
   split
   · constructor
     · intro h h2; exact h ⟨h2.2.1, h2.2.2⟩
     · intro h h2; exact h ⟨by omega, h2.1, h2.2⟩
   · constructor
     · intro h h2; exact h ⟨h2.1, h2.2.2⟩
     · intro h h2; exact h ⟨h2.1, by omega, h2.2⟩
theorem cCheck_eq {len : Int} {cuts dens : List Int} (h1 : cuts.length < 4611686018427387904) (h2 : dens.length < 4611686018427387904) (K : Int → Prop) :
   w_cake_Check len (ints cuts) (ints dens) K = K (ckC len cuts dens) := by
 refine det_cake_Check _ _ _ _ (fun K k => ?_) K
 unfold w_cake_Check wv_cake_Check
 simp only [ints_len]
 have bad : ¬ (len > 1000 ∨ cuts.length > 40) → ¬ VC len cuts dens → K 8 := fun h h2 => by
   rw [ckC, if_neg h, if_neg h2] at k; exact k
 by_cases a1 : len > 1000
 · rw [cbT a1]; rw [ckC, if_pos (.inl a1)] at k; exact k
 rw [cbF a1]
 by_cases a2 : cuts.length > 40
 · rw [cbT (by omega)]; rw [ckC, if_pos (.inr a2)] at k; exact k
 have a12 : ¬ (len > 1000 ∨ cuts.length > 40) := by omega
 rw [cbF (by omega)]
 by_cases a3 : len < 1
 · rw [cbT a3]; exact bad a12 (fun h => by have := h.1; omega)
 rw [cbF a3]
 by_cases a4 : cuts.length < 2
 · rw [cbT (by omega)]; exact bad a12 (fun h => by have := h.2.2.1; omega)
 rw [cbF (by omega), wib (n := (cuts.length : Int) - 1) (by omega) (by omega)]
 by_cases a5 : dens.length + 1 = cuts.length
 case neg => rw [cnT (by omega)]; exact bad a12 (fun h => a5 h.2.2.2.2.1)
 rw [cnF (by omega), asT (by omega), asC (by omega), ints_iv (by omega)]
 by_cases a6 : cuts.getD 0 0 = 0
 case neg => rw [cnT a6]; exact bad a12 (fun h => a6 h.2.2.2.2.2.1)
 rw [cnF a6, asT (by omega), asT (by omega), asC (by omega), ints_iv (by omega)]
 have en : ((cuts.length : Int) - 1).toNat = cuts.length - 1 := by omega
 rw [en]
 by_cases a7 : cuts.getD (cuts.length - 1) 0 = len
 case neg => rw [cnT a7]; exact bad a12 (fun h => a7 h.2.2.2.2.2.2.1)
 rw [cnF a7]
 refine ⟨cuts.length + 1, ?_⟩
 refine Check_loop (by omega) _ _ _ _ (cuts.length - 1) 0 _ (by omega) (by omega) (fun hi => ?_) (fun hi => bad a12 (fun h => hi h.2.2.2.2.2.2.2.1))
 obtain ⟨x, t, e⟩ : ∃ x t, dens = x :: t := by
   cases dens with
   | nil => exfalso; have : ([] : List Int).length = 0 := rfl; omega
   | cons x t => exact ⟨x, t, rfl⟩
 refine Min_of (by omega) e ?_
 by_cases b1 : t.foldl mnf x < 0
 · rw [cbT b1]
   rw [mnf_all] at b1
   exact bad a12 (fun h => b1 fun d hd => (h.2.2.2.2.2.2.2.2.1 d (by rw [e]; exact hd)).1)
 rw [cbF b1]
 refine Max_of (by omega) e ?_
 by_cases b2 : t.foldl mxf x > 12
 · rw [cbT b2]
   rw [mxf_all] at b2
   exact bad a12 (fun h => b2 fun d hd => (h.2.2.2.2.2.2.2.2.1 d (by rw [e]; exact hd)).2)
 rw [cbF b2]
 refine Max_of (by omega) e ?_
 have c1 : ∀ d ∈ dens, 0 ≤ d := by rw [mnf_all, Classical.not_not, ← e] at b1; exact b1
 have c2 : ∀ d ∈ dens, d ≤ 12 := by rw [mxf_all, Classical.not_not, ← e] at b2; exact b2
 by_cases b3 : t.foldl mxf x = 0
 · rw [ceT b3]
   refine bad a12 (fun h => ?_)
   obtain ⟨d, hd, h0⟩ := h.2.2.2.2.2.2.2.2.2
   have : ¬ (t.foldl mxf x > 0) := by omega
   rw [mxf_all, Classical.not_not, ← e] at this
   have := this d hd
   omega
 · rw [ceF b3]
   have b4 : t.foldl mxf x > 0 := by
     refine Int.not_le.1 fun hle => b3 ?_
     have : t.foldl mxf x > -1 := by
       rw [mxf_all]
       intro h
       have h1 := h x (List.mem_cons_self ..)
       have h2 := c1 x (by rw [e]; exact List.mem_cons_self ..)
       omega
     omega
   rw [mxf_all, ← e] at b4
   have b5 : someD dens := by
     refine Classical.byContradiction fun hn => b4 fun d hd => ?_
     exact Int.not_lt.1 fun hlt => hn ⟨d, hd, hlt⟩
   rw [ckC, if_neg a12, if_pos ⟨by omega, by omega, by omega, by omega, a5, a6, a7, hi, fun d hd => ⟨c1 d hd, c2 d hd⟩, b5⟩] at k
   exact k
theorem whole_eq (n : Int) (K : Int → Int → Prop) : w_cake_whole n K = K (n : Rat).num (n : Rat).den := rfl
theorem cless_eq {q r : Rat} (hq : small q) (hr : small r) (K : Bool → Prop) : w_cake_less q.num q.den r.num r.den K = K (decide (q < r)) := by
 unfold w_cake_less wv_cake_less
 rw [rCmp_eq hq hr]
 congr 1
 rw [decide_eq_decide, cmpQ]
 by_cases h : q < r
 · simp [h]
 · by_cases h2 : r < q <;> simp [h, h2]
def PT (len : Int) (n d : Int) : Prop := RV n d ∧ 0 ≤ n ∧ n ≤ len * d
instance (len n d : Int) : Decidable (PT len n d) := by unfold PT; infer_instance
theorem PT_rat {len n d : Int} (h : PT len n d) : ∃ q : Rat, small q ∧ q.num = n ∧ (q.den : Int) = d ∧ 0 ≤ q ∧ q ≤ (len : Rat) := by
 obtain ⟨h1, h2, h3⟩ := h
 obtain ⟨q, e1, e2, e3⟩ := rv_rat h1
 refine ⟨q, e1, e2, e3, ?_, ?_⟩
 · rw [← Rat.num_nonneg, e2]; exact h2
 · rw [Rat.le_iff, e2, e3, Rat.num_intCast, Rat.den_intCast]; simpa using h3
theorem int_lt_iff (x : Int) (q : Rat) : ((x : Rat) < q) ↔ x * (q.den : Int) < q.num := by
 rw [Rat.lt_iff, Rat.num_intCast, Rat.den_intCast]; simp
theorem point_eq {len : Int} (hl : -1000000000000000000 ≤ len ∧ len ≤ 1000000000000000000) {n d : Int} (hn : I64 n) (hd : I64 d) (a b : List PV) (K : Bool → Prop) :
   w_cake_point len a b n d K = K (decide (PT len n d)) := by
 unfold w_cake_point wv_cake_point
 rw [rCheck_eq hn hd]
 by_cases h : RV n d
 · obtain ⟨q, e1, e2, e3⟩ := rv_rat h
   rw [chk, if_pos h, ceT rfl]
   by_cases h0 : n ≥ 0
   · rw [cbT h0, whole_eq, ← e2, ← e3, cless_eq (small_int hl) e1]
     congr 1
     have : ((len : Rat) < q) ↔ len * (q.den : Int) < q.num := int_lt_iff _ _
     by_cases h3 : (len : Rat) < q
     · have h4 := this.1 h3
       rw [decide_eq_true h3, decide_eq_false]; rfl
       intro hp; have := hp.2.2; omega
     · have h4 : ¬ _ := fun x => h3 (this.2 x)
       rw [decide_eq_false h3, decide_eq_true]; rfl
       exact ⟨e1.rv, by omega, by omega⟩
   · rw [cbF h0, decide_eq_false]
     intro hp; have := hp.2.1; omega
 · rw [chk, if_neg h, ceF (by decide), decide_eq_false]
   intro hp; exact h hp.1
end Go.Pf.Vc
namespace Go.Pf.Vc
open Go Go.Pf
section
variable {len : Int} {cuts dens : List Int}
theorem VC.step (h : VC len cuts dens) {i : Nat} (hi : i + 1 < cuts.length) : cuts.getD i 0 < cuts.getD (i + 1) 0 := h.2.2.2.2.2.2.2.1 i (Nat.zero_le _) hi
theorem VC.mono (h : VC len cuts dens) {i : Nat} : ∀ {j : Nat}, i ≤ j → j < cuts.length → cuts.getD i 0 ≤ cuts.getD j 0
 | 0, hij, _ => by
   have : i = 0 := by omega
   subst this; exact Int.le_refl _
 | j + 1, hij, hj => by
   by_cases e : i = j + 1
   · subst e; exact Int.le_refl _
   · have h1 := h.mono (i := i) (j := j) (by omega) (by omega)
     have h2 := h.step (i := j) hj
     omega
theorem VC.lo (h : VC len cuts dens) {i : Nat} (hi : i < cuts.length) : 0 ≤ cuts.getD i 0 := by
 have := h.mono (Nat.zero_le i) hi
 rw [h.2.2.2.2.2.1] at this; exact this
theorem VC.hi (h : VC len cuts dens) {i : Nat} (hi : i < cuts.length) : cuts.getD i 0 ≤ len := by
 have := h.mono (i := i) (j := cuts.length - 1) (by omega) (by omega)
 rw [h.2.2.2.2.2.2.1] at this; exact this
theorem VC.den (h : VC len cuts dens) {i : Nat} (hi : i < dens.length) : 0 ≤ dens.getD i 0 ∧ dens.getD i 0 ≤ 12 := by
 rw [List.getD_eq_getElem?_getD, List.getElem?_eq_getElem hi]
 exact h.2.2.2.2.2.2.2.2.1 _ (List.getElem_mem hi)
theorem VC.l1 (h : VC len cuts dens) : dens.length + 1 = cuts.length := h.2.2.2.2.1
theorem VC.l2 (h : VC len cuts dens) : cuts.length ≤ 40 := h.2.2.2.1
theorem VC.len0 (h : VC len cuts dens) : 1 ≤ len ∧ len ≤ 1000 := ⟨h.1, h.2.1⟩
theorem VC.sc (h : VC len cuts dens) {i : Nat} (hi : i < cuts.length) : small ((cuts.getD i 0 : Int) : Rat) := small_int (by have := h.lo hi; have := h.hi hi; have := h.len0; omega)
theorem VC.sd (h : VC len cuts dens) {i : Nat} (hi : i < dens.length) : small ((dens.getD i 0 : Int) : Rat) := small_int (by have := h.den hi; omega)
theorem ckC_zero (h : ckC len cuts dens = 0) : VC len cuts dens := by
 unfold ckC at h
 split at h
 · omega
 · split at h
   · assumption
   · omega
theorem VC.ck (h : VC len cuts dens) : ckC len cuts dens = 0 := by
 rw [ckC, if_neg (by have := h.l2; have := h.len0; omega), if_pos h]
def totS (cuts dens : List Int) : Nat → Nat → Int → Int
 | 0, _, s => s
 | r + 1, i, s => totS cuts dens r (i + 1) (s + dens.getD i 0 * (cuts.getD (i + 1) 0 - cuts.getD i 0))
def totC (cuts dens : List Int) : Int := totS cuts dens dens.length 0 0
theorem mul12 {d x : Int} (h : 0 ≤ d ∧ d ≤ 12) (hx : 0 ≤ x) : 0 ≤ d * x ∧ d * x ≤ 12 * x := ⟨Int.mul_nonneg h.1 hx, Int.mul_le_mul_of_nonneg_right h.2 hx⟩
theorem totS_bound (h : VC len cuts dens) : ∀ (r i : Nat) (s : Int), i + r = dens.length → 0 ≤ s → s ≤ 12 * cuts.getD i 0 → 0 ≤ totS cuts dens r i s ∧ totS cuts dens r i s ≤ 12 * len
 | 0, i, s, hi, h0, h1 => by
   have := h.l1
   have := h.hi (i := i) (by omega)
   unfold totS
   omega
 | r + 1, i, s, hi, h0, h1 => by
   unfold totS
   have l1 := h.l1
   have h2 := h.step (i := i) (by omega)
   have h3 := mul12 (h.den (i := i) (by omega)) (x := cuts.getD (i + 1) 0 - cuts.getD i 0) (by omega)
   exact totS_bound h r (i + 1) _ (by omega) (by omega) (by omega)
theorem totC_bound (h : VC len cuts dens) : 0 ≤ totC cuts dens ∧ totC cuts dens ≤ 12000 := by
 have l1 := h.l1
 have h0 := h.lo (i := 0) (by omega)
 have := totS_bound h dens.length 0 0 (by omega) (by omega) (by omega)
 have h2 := h.len0
 unfold totC; omega
theorem Total_loop (h : VC len cuts dens) (W : Int → List PV → List PV → (Int → Prop) → Prop) (x0 : Int → List PV → List PV → Int → List PV → Int → Int → Bool → Prop) :
   ∀ (r i n : Nat) (s : Int), i + r = dens.length → r < n → 0 ≤ s → s ≤ 12 * cuts.getD i 0 →
     L_cake_Total_0_0 W x0 n len (ints cuts) (ints dens) s (ints dens) dens.length i = x0 len (ints cuts) (ints dens) (totS cuts dens r i s) (ints dens) dens.length dens.length false
 | 0, i, n + 1, s, hi, hn, h0, h1 => by
   unfold L_cake_Total_0_0 totS
   rw [cbF (by omega)]
   have : (i : Int) = dens.length := by omega
   rw [this]
 | r + 1, i, n + 1, s, hi, hn, h0, h1 => by
   unfold L_cake_Total_0_0
   have l1 := h.l1; have l2 := h.l2
   have h2 := h.step (i := i) (by omega)
   have h3 := mul12 (h.den (i := i) (by omega)) (x := cuts.getD (i + 1) 0 - cuts.getD i 0) (by omega)
   have a1 := h.lo (i := i) (by omega)
   have a2 := h.hi (i := i + 1) (by omega)
   have a3 := h.len0
   have e1 := wib (n := (i : Int) + 1) (by omega) (by omega)
   have e2 := wib (n := cuts.getD (i + 1) 0 - cuts.getD i 0) (by omega) (by omega)
   have e3 := wib (n := dens.getD i 0 * (cuts.getD (i + 1) 0 - cuts.getD i 0)) (by omega) (by omega)
   have e4 := wib (n := s + dens.getD i 0 * (cuts.getD (i + 1) 0 - cuts.getD i 0)) (by omega) (by omega)
   rw [cbT (by omega), ints_len, ints_len, e1, cast1, Int.toNat_natCast, Int.toNat_natCast, asT (by omega), asT (by omega), asC (by omega), asT (by omega), asT (by omega), asC (by omega), asT (by omega), asT (by omega), asC (by omega), ints_iv (by omega), ints_iv (by omega), ints_iv (by omega), e2, e3, e4]
   exact Total_loop h W x0 r (i + 1) n _ (by omega) (by omega) (by omega) (by omega)
theorem cTotal_eq (h1 : cuts.length < 4611686018427387904) (h2 : dens.length < 4611686018427387904) (K : Int → Int → Prop) :
   w_cake_Total len (ints cuts) (ints dens) K = if ckC len cuts dens = 0 then K (totC cuts dens) 0 else K 0 (ckC len cuts dens) := by
 by_cases h : ckC len cuts dens = 0
 · rw [if_pos h]
   refine det_cake_Total _ _ _ _ _ (fun K k => ?_) K
   unfold w_cake_Total wv_cake_Total
   have hv := ckC_zero h
   rw [cCheck_eq h1 h2, h, cnF rfl]
   refine ⟨dens.length + 1, ?_⟩
   have l1 := hv.l1
   have a1 := hv.lo (i := 0) (by omega)
   rw [ints_len]
   have := Total_loop hv w_cake_Check (fun yi1 yl2 yl3 yi4 yl5 yi6 yi7 yb8 => (K yi4 (0 : Int))) dens.length 0 (dens.length + 1) 0 (by omega) (by omega) (by omega) (by omega)
   rw [show ((0 : Nat) : Int) = 0 from rfl] at this
   rw [this]
   exact k
 · rw [if_neg h]
   unfold w_cake_Total wv_cake_Total
   rw [cCheck_eq h1 h2, cnT h]
def exK (e : Except Int Rat) (K : Int → Int → Int → Prop) : Prop := match e with | .ok q => K q.num q.den 0 | .error c => K 0 0 c
def fit {α : Type} (q : Rat) (k : Rat → Except Int α) : Except Int α := if small q then k q else .error 16
def valS (cuts dens : List Int) (b : Rat) : Nat → Nat → Rat → Rat → Except Int Rat
 | 0, _, _, sum => .ok sum
 | r + 1, i, p, sum =>
   let en : Rat := if b < (cuts.getD (i + 1) 0 : Int) then b else (cuts.getD (i + 1) 0 : Int)
   if dens.getD i 0 = 0 ∨ ¬ p < en then valS cuts dens b r (i + 1) (if p < en then en else p) sum
   else fit (en - p) fun l => fit (l * (dens.getD i 0 : Int)) fun w => fit (sum + w) fun s => valS cuts dens b r (i + 1) en s
def valC (cuts dens : List Int) (a b : Rat) : Except Int Rat := valS cuts dens b dens.length 0 a 0
theorem fitK_if {q : Rat} {K : Int → Int → Int → Prop} : fitK q K = if small q then K q.num q.den 0 else K 0 0 16 := rfl
theorem Value_loop (h : VC len cuts dens) {b : Rat} (hb : small b) (an ad : Int) (W1 : Int → List PV → List PV → (Int → Prop) → Prop) (W2 : Int → List PV → List PV → Int → Int → (Bool → Prop) → Prop) (K : Int → Int → Int → Prop) :
   ∀ (r i n : Nat) (p sum : Rat), i + r = dens.length → r < n → small p → small sum →
     L_cake_Value_0_0 W1 W2 w_cake_less w_cake_whole w_ratio_Sub w_ratio_Mul w_ratio_Add (fun yi37 yi38 yi39 => (K yi37 yi38 yi39)) (fun _ _ _ _ _ _ _ yi47 yi48 _ _ _ _ _ _ => (K yi47 yi48 (0 : Int)))
       n len (ints cuts) (ints dens) b.num b.den an ad sum.num sum.den p.num p.den (ints dens) dens.length i = exK (valS cuts dens b r i p sum) K
 | 0, i, n + 1, p, sum, hi, hn, hp, hs => by
   unfold L_cake_Value_0_0 valS
   rw [cbF (by omega)]; rfl
 | r + 1, i, n + 1, p, sum, hi, hn, hp, hs => by
   unfold L_cake_Value_0_0
   have l1 := h.l1; have l2 := h.l2
   have sc := h.sc (i := i + 1) (by omega)
   have sd := h.sd (i := i) (by omega)
   have e1 := wib (n := (i : Int) + 1) (by omega) (by omega)
   rw [cbT (by omega), ints_len, ints_len, e1, cast1, Int.toNat_natCast, Int.toNat_natCast, asT (by omega), asT (by omega), asC (by omega), asT (by omega), asT (by omega), asC (by omega), ints_iv (by omega), ints_iv (by omega), whole_eq, cless_eq hb sc]
   have ih := fun p sum hp hs => Value_loop h hb an ad W1 W2 K r (i + 1) n p sum (by omega) (by omega) hp hs
   unfold valS
   by_cases hbc : b < ((cuts.getD (i + 1) 0 : Int) : Rat)
   · rw [cbT hbc]
     simp only [if_pos hbc]
     by_cases hd : dens.getD i 0 = 0
     · rw [ceT hd, if_pos (.inl hd), cless_eq hp hb]
       by_cases hpb : p < b
       · rw [cbT hpb, if_pos hpb]; exact ih b sum hb hs
       · rw [cbF hpb, if_neg hpb]; exact ih p sum hp hs
     · rw [ceF hd, cless_eq hp hb]
       by_cases hpb : p < b
       · have hc : ¬ (dens.getD i 0 = 0 ∨ ¬ p < b) := by simp [hpb]; exact hd
         rw [if_neg hc, decide_eq_true hpb, Bool.not_true, cbr_false, rSub_eq hb hp, fitK_if]
         by_cases s1 : small (b - p)
         · rw [if_pos s1, cnF rfl, whole_eq, rMul_eq s1 sd, fitK_if, fit, if_pos s1]
           by_cases s2 : small ((b - p) * (dens.getD i 0 : Int))
           · rw [if_pos s2, cnF rfl, rAdd_eq hs s2, fitK_if, fit, if_pos s2]
             by_cases s3 : small (sum + (b - p) * (dens.getD i 0 : Int))
             · rw [if_pos s3, cnF rfl, fit, if_pos s3]; exact ih b _ hb s3
             · rw [if_neg s3, cnT (by decide), fit, if_neg s3]; rfl
           · rw [if_neg s2, cnT (by decide), fit, if_neg s2]; rfl
         · rw [if_neg s1, cnT (by decide), fit, if_neg s1]; rfl
       · rw [if_pos (.inr hpb), decide_eq_false hpb, Bool.not_false, cbr_true, cless_eq hp hb, cbF hpb, if_neg hpb]; exact ih p sum hp hs
   · rw [cbF hbc]
     simp only [if_neg hbc]
     obtain ⟨c, hc⟩ : ∃ c : Rat, c = ((cuts.getD (i + 1) 0 : Int) : Rat) := ⟨_, rfl⟩
     rw [← hc] at sc ⊢
     by_cases hd : dens.getD i 0 = 0
     · rw [ceT hd, if_pos (.inl hd), cless_eq hp sc]
       by_cases hpb : p < c
       · rw [cbT hpb, if_pos hpb]; exact ih c sum sc hs
       · rw [cbF hpb, if_neg hpb]; exact ih p sum hp hs
     · rw [ceF hd, cless_eq hp sc]
       by_cases hpb : p < c
       · have hcc : ¬ (dens.getD i 0 = 0 ∨ ¬ p < c) := by simp [hpb]; exact hd
         rw [if_neg hcc, decide_eq_true hpb, Bool.not_true, cbr_false, rSub_eq sc hp, fitK_if]
         by_cases s1 : small (c - p)
         · rw [if_pos s1, cnF rfl, whole_eq, rMul_eq s1 sd, fitK_if, fit, if_pos s1]
           by_cases s2 : small ((c - p) * (dens.getD i 0 : Int))
           · rw [if_pos s2, cnF rfl, rAdd_eq hs s2, fitK_if, fit, if_pos s2]
             by_cases s3 : small (sum + (c - p) * (dens.getD i 0 : Int))
             · rw [if_pos s3, cnF rfl, fit, if_pos s3]; exact ih c _ sc s3
             · rw [if_neg s3, cnT (by decide), fit, if_neg s3]; rfl
           · rw [if_neg s2, cnT (by decide), fit, if_neg s2]; rfl
         · rw [if_neg s1, cnT (by decide), fit, if_neg s1]; rfl
       · rw [if_pos (.inr hpb), decide_eq_false hpb, Bool.not_false, cbr_true, cless_eq hp sc, cbF hpb, if_neg hpb]; exact ih p sum hp hs
end
end Go.Pf.Vc
namespace Go.Pf.Vc
open Go Go.Pf
def rt (n d : Int) : Rat := mkRat n d.toNat
theorem rt_self (q : Rat) : rt q.num q.den = q := by unfold rt; rw [Int.toNat_natCast, Rat.mkRat_self]
theorem rt_of {n d : Int} (h : RV n d) : small (rt n d) ∧ (rt n d).num = n ∧ ((rt n d).den : Int) = d := by
 obtain ⟨q, h1, h2, h3⟩ := rv_rat h
 subst h2 h3
 rw [rt_self]; exact ⟨h1, rfl, rfl⟩
theorem PT.pt {len n d : Int} (h : PT len n d) : small (rt n d) ∧ (rt n d).num = n ∧ ((rt n d).den : Int) = d ∧ 0 ≤ rt n d ∧ rt n d ≤ (len : Rat) := by
 obtain ⟨q, h1, h2, h3, h4, h5⟩ := PT_rat h
 subst h2 h3
 rw [rt_self]; exact ⟨h1, rfl, rfl, h4, h5⟩
theorem PT_of {len : Int} {q : Rat} (h : small q) (h0 : 0 ≤ q) (h1 : q ≤ (len : Rat)) : PT len q.num q.den := by
 refine ⟨h.rv, Rat.num_nonneg.2 h0, ?_⟩
 rw [Rat.le_iff, Rat.num_intCast, Rat.den_intCast] at h1
 simpa using h1
section
variable {len : Int} {cuts dens : List Int}
def valR (len : Int) (cuts dens : List Int) (an ad bn bd : Int) : Except Int Rat :=
 if ckC len cuts dens = 0 then (if PT len an ad ∧ PT len bn bd ∧ ¬ rt bn bd < rt an ad then valC cuts dens (rt an ad) (rt bn bd) else .error 2) else .error (ckC len cuts dens)
theorem det_ex {w : (Int → Int → Int → Prop) → Prop} {e : Except Int Rat} (det : ∀ r0 r1 r2, (∀ K : Int → Int → Int → Prop, K r0 r1 r2 → w K) → ∀ K, w K = K r0 r1 r2) (h : ∀ K, exK e K → w K) (K : Int → Int → Int → Prop) : w K = exK e K := by
 cases e with
 | ok q => exact det _ _ _ h K
 | error c => exact det _ _ _ h K
theorem cValue_eq (h1 : cuts.length < 4611686018427387904) (h2 : dens.length < 4611686018427387904) {an ad bn bd : Int} (ha : I64 an) (ha' : I64 ad) (hb : I64 bn) (hb' : I64 bd) (K : Int → Int → Int → Prop) :
   w_cake_Value len (ints cuts) (ints dens) an ad bn bd K = exK (valR len cuts dens an ad bn bd) K := by
 refine det_ex (fun r0 r1 r2 h K => det_cake_Value _ _ _ _ _ _ _ r0 r1 r2 h K) (fun K k => ?_) K
 unfold w_cake_Value wv_cake_Value
 rw [cCheck_eq h1 h2]
 unfold valR at k
 by_cases h : ckC len cuts dens = 0
 case neg => rw [cnT h]; rw [if_neg h] at k; exact k
 have hv := ckC_zero h
 have hl := hv.len0
 rw [if_pos h] at k
 rw [cnF h, point_eq (by omega) ha ha']
 by_cases p1 : PT len an ad
 case neg => rw [decide_eq_false p1, Bool.not_false, cbr_true]; rw [if_neg (fun x => p1 x.1)] at k; exact k
 rw [decide_eq_true p1, Bool.not_true, cbr_false, point_eq (by omega) hb hb']
 by_cases p2 : PT len bn bd
 case neg => rw [decide_eq_false p2, Bool.not_false, cbr_true]; rw [if_neg (fun x => p2 x.2.1)] at k; exact k
 rw [decide_eq_true p2, Bool.not_true, cbr_false]
 obtain ⟨s1, e1, e2, _, _⟩ := p1.pt
 obtain ⟨s2, f1, f2, _, _⟩ := p2.pt
 have hless := cless_eq s2 s1
 rw [e1, e2, f1, f2] at hless
 rw [hless]
 by_cases p3 : rt bn bd < rt an ad
 · rw [cbT p3]; rw [if_neg (fun x => x.2.2 p3)] at k; exact k
 rw [cbF p3]
 rw [if_pos ⟨p1, p2, p3⟩] at k
 rw [whole_eq, ints_len]
 refine ⟨dens.length + 1, ?_⟩
 have := Value_loop hv s2 0 0 w_cake_Check w_cake_point K dens.length 0 (dens.length + 1) (rt an ad) 0 (by omega) (by omega) s1 (by decide)
 rw [e1, e2, f1, f2] at this
 exact this.mpr k
def mrkS (cuts dens : List Int) : Nat → Nat → Rat → Rat → Except Int Rat
 | 0, _, _, _ => .error 6
 | r + 1, i, p, v =>
   if ¬ p < (cuts.getD (i + 1) 0 : Int) then mrkS cuts dens r (i + 1) p v
   else if dens.getD i 0 = 0 then mrkS cuts dens r (i + 1) (cuts.getD (i + 1) 0 : Int) v
   else fit ((cuts.getD (i + 1) 0 : Int) - p) fun l => fit (l * (dens.getD i 0 : Int)) fun w =>
     if w < v then fit (v - w) fun v' => mrkS cuts dens r (i + 1) (cuts.getD (i + 1) 0 : Int) v'
     else fit (v / (dens.getD i 0 : Int)) fun s => fit (p + s) .ok
def mrkC (cuts dens : List Int) (a v : Rat) : Except Int Rat := if v = 0 then .ok a else mrkS cuts dens dens.length 0 a v
def mrkR (len : Int) (cuts dens : List Int) (an ad vn vd : Int) : Except Int Rat :=
 if ckC len cuts dens = 0 then (if PT len an ad ∧ RV vn vd ∧ 0 ≤ vn then mrkC cuts dens (rt an ad) (rt vn vd) else .error 2) else .error (ckC len cuts dens)
theorem Mark_loop (h : VC len cuts dens) (W1 : Int → List PV → List PV → (Int → Prop) → Prop) (W2 : Int → List PV → List PV → Int → Int → (Bool → Prop) → Prop) (W3 : Int → Int → (Int → Prop) → Prop) (K : Int → Int → Int → Prop) :
   ∀ (r i n : Nat) (p v : Rat) (o1 o2 : Int), i + r = dens.length → r < n → small p → small v →
     L_cake_Mark_0_0 W1 W2 W3 w_cake_whole w_cake_less w_ratio_Sub w_ratio_Mul w_ratio_Div w_ratio_Add
       (fun _ _ yi42 yi43 yi44 yi45 => (cbr (yi45 != (0 : Int)) (cbr (yi45 != (0 : Int)) (K (0 : Int) (0 : Int) yi45) (K yi42 yi43 (0 : Int))) (cbr (yi44 != (0 : Int)) (K (0 : Int) (0 : Int) yi44) (K yi42 yi43 (0 : Int)))))
       (fun _ _ yi48 yi49 yi50 _ _ _ _ _ _ _ _ _ => (cbr (yi50 != (0 : Int)) (K (0 : Int) (0 : Int) yi50) (K yi48 yi49 (0 : Int))))
       n v.num v.den o1 o2 6 len (ints cuts) (ints dens) p.num p.den (ints dens) dens.length i = exK (mrkS cuts dens r i p v) K
 | 0, i, n + 1, p, v, o1, o2, hi, hn, hp, hs => by
   unfold L_cake_Mark_0_0 mrkS
   rw [cbF (by omega)]; rfl
 | r + 1, i, n + 1, p, v, o1, o2, hi, hn, hp, hs => by
   unfold L_cake_Mark_0_0
   have l1 := h.l1; have l2 := h.l2
   have sc := h.sc (i := i + 1) (by omega)
   have sd := h.sd (i := i) (by omega)
   have hd0 := h.den (i := i) (by omega)
   have e1 := wib (n := (i : Int) + 1) (by omega) (by omega)
   rw [cbT (by omega), ints_len, ints_len, e1, cast1, Int.toNat_natCast, Int.toNat_natCast, asT (by omega), asT (by omega), asC (by omega), asT (by omega), asT (by omega), asC (by omega), ints_iv (by omega), ints_iv (by omega), whole_eq, cless_eq hp sc]
   have ih := fun p v o1 o2 hp hs => Mark_loop h W1 W2 W3 K r (i + 1) n p v o1 o2 (by omega) (by omega) hp hs
   unfold mrkS
   obtain ⟨c, hc⟩ : ∃ c : Rat, c = ((cuts.getD (i + 1) 0 : Int) : Rat) := ⟨_, rfl⟩
   rw [← hc] at sc ⊢
   by_cases hpc : p < c
   case neg => rw [decide_eq_false hpc, Bool.not_false, cbr_true, if_pos hpc]; exact ih p v o1 o2 hp hs
   rw [decide_eq_true hpc, Bool.not_true, cbr_false, if_neg (fun x => x hpc), whole_eq]
   by_cases hd : dens.getD i 0 = 0
   · rw [cbF (by omega), ceT hd, if_pos hd]; exact ih c v o1 o2 sc hs
   rw [cbT (by omega), if_neg hd, rSub_eq sc hp, fitK_if]
   by_cases s1 : small (c - p)
   case neg => rw [if_neg s1, cnT (by decide), cnT (by decide), cnT (by decide), fit, if_neg s1]; rfl
   rw [if_pos s1, cnF rfl, whole_eq, rMul_eq s1 sd, fitK_if, fit, if_pos s1]
   by_cases s2 : small ((c - p) * (dens.getD i 0 : Int))
   case neg => rw [if_neg s2, cnT (by decide), cnT (by decide), cnT (by decide), fit, if_neg s2]; rfl
   rw [if_pos s2, cnF rfl, ceF hd, cless_eq s2 hs, fit, if_pos s2]
   by_cases hw : (c - p) * (dens.getD i 0 : Int) < v
   · rw [cbT hw, if_pos hw, rSub_eq hs s2, fitK_if, fit]
     by_cases s3 : small (v - (c - p) * (dens.getD i 0 : Int))
     · rw [if_pos s3, if_pos s3, cnF rfl, cnF rfl]; exact ih c _ o1 o2 sc s3
     · rw [if_neg s3, if_neg s3, cnT (by decide), cnT (by decide), cnF rfl, cnT (by decide)]; rfl
   · have hdn : ((dens.getD i 0 : Int) : Rat) ≠ 0 := fun e => hd (Rat.intCast_eq_zero_iff.1 e)
     rw [cbF hw, if_neg hw, whole_eq, rDiv_eq hs sd hdn, fitK_if, fit]
     by_cases s3 : small (v / (dens.getD i 0 : Int))
     · rw [if_pos s3, if_pos s3, ceT rfl, rAdd_eq hp s3, fitK_if, fit]
       by_cases s4 : small (p + v / (dens.getD i 0 : Int))
       · rw [if_pos s4, if_pos s4, cnF rfl, cnF rfl]; rfl
       · rw [if_neg s4, if_neg s4, cnF rfl, cnT (by decide)]; rfl
     · rw [if_neg s3, if_neg s3, ceF (by decide), cnF rfl, cnT (by decide)]; rfl
theorem cMark_eq (h1 : cuts.length < 4611686018427387904) (h2 : dens.length < 4611686018427387904) {an ad vn vd : Int} (ha : I64 an) (ha' : I64 ad) (hv : I64 vn) (hv' : I64 vd) (K : Int → Int → Int → Prop) :
   w_cake_Mark len (ints cuts) (ints dens) an ad vn vd K = exK (mrkR len cuts dens an ad vn vd) K := by
 refine det_ex (fun r0 r1 r2 h K => det_cake_Mark _ _ _ _ _ _ _ r0 r1 r2 h K) (fun K k => ?_) K
 unfold w_cake_Mark wv_cake_Mark
 rw [cCheck_eq h1 h2]
 unfold mrkR at k
 by_cases h : ckC len cuts dens = 0
 case neg => rw [cnT h]; rw [if_neg h] at k; exact k
 have hc := ckC_zero h
 have hl := hc.len0
 rw [if_pos h] at k
 rw [cnF h, point_eq (by omega) ha ha']
 by_cases p1 : PT len an ad
 case neg => rw [decide_eq_false p1, Bool.not_false, cbr_true]; rw [if_neg (fun x => p1 x.1)] at k; exact k
 rw [decide_eq_true p1, Bool.not_true, cbr_false, rCheck_eq hv hv', chk]
 by_cases p2 : RV vn vd
 case neg => rw [if_neg p2, cnT (by decide)]; rw [if_neg (fun x => p2 x.2.1)] at k; exact k
 rw [if_pos p2, cnF rfl]
 by_cases p3 : vn < 0
 · rw [cbT p3]; rw [if_neg (fun x => by omega)] at k; exact k
 rw [cbF p3]
 rw [if_pos ⟨p1, p2, by omega⟩] at k
 obtain ⟨s1, e1, e2, _, _⟩ := p1.pt
 obtain ⟨s2, f1, f2⟩ := rt_of p2
 unfold mrkC at k
 by_cases p4 : vn = 0
 · rw [ceT p4]
   rw [if_pos (Rat.num_eq_zero.1 (f1.trans p4))] at k
   have k : K (rt an ad).num (rt an ad).den 0 := k
   rw [e1, e2] at k
   exact k
 rw [ceF p4]
 rw [if_neg (fun x => p4 (by rw [← f1, x]; rfl))] at k
 rw [ints_len]
 refine ⟨dens.length + 1, ?_⟩
 have := Mark_loop hc w_cake_Check w_cake_point w_ratio_Check K dens.length 0 (dens.length + 1) (rt an ad) (rt vn vd) 0 0 (by omega) (by omega) s1 s2
 rw [e1, e2, f1, f2] at this
 exact this.mpr k
end
end Go.Pf.Vc
namespace Go.Pf.Vc
open Go Go.Pf
section
variable {len : Int} {cuts dens : List Int}
def okD (cuts dens : List Int) (i : Nat) : Prop := ∀ j, i ≤ j → j < dens.length → cuts.getD j 0 < cuts.getD (j + 1) 0 ∧ 0 ≤ dens.getD j 0 ∧ dens.getD j 0 ≤ 12
theorem dCheck_loop (l1 : dens.length + 1 = cuts.length) (l2 : dens.length < 4611686018427387904) (x0 : Int → Prop) (x1 : Int → List PV → List PV → Bool → Int → Bool → Prop) (P : Prop)
   (hbad : ¬ okD cuts dens 0 → x0 8 = P) (hgood : ∀ b : Bool, okD cuts dens 0 → b = decide (∃ j, j < dens.length ∧ 0 < dens.getD j 0) → x1 len (ints cuts) (ints dens) b dens.length false = P) :
   ∀ (r i n : Nat) (b : Bool), i + r = dens.length → r < n → (∀ j, j < i → cuts.getD j 0 < cuts.getD (j + 1) 0 ∧ 0 ≤ dens.getD j 0 ∧ dens.getD j 0 ≤ 12) → b = decide (∃ j, j < i ∧ 0 < dens.getD j 0) →
     L_r02_Check_0_0 x0 x1 n len (ints cuts) (ints dens) b i = P
 | 0, i, n + 1, b, hi, hn, hj, hb => by
   unfold L_r02_Check_0_0
   rw [ints_len, cbF (by omega), show (i : Int) = dens.length by omega]
   refine hgood b (fun j _ h => hj j (by omega)) ?_
   rw [hb, decide_eq_decide]
   rw [show i = dens.length by omega]
 | r + 1, i, n + 1, b, hi, hn, hj, hb => by
   unfold L_r02_Check_0_0
   have e1 := wib (n := (i : Int) + 1) (by omega) (by omega)
   rw [ints_len, ints_len, cbT (by omega), e1, cast1, Int.toNat_natCast, Int.toNat_natCast, asT (by omega), asT (by omega), asC (by omega), asT (by omega), asT (by omega), asC (by omega), ints_iv (by omega), ints_iv (by omega)]
   have bad : ¬ (cuts.getD i 0 < cuts.getD (i + 1) 0 ∧ 0 ≤ dens.getD i 0 ∧ dens.getD i 0 ≤ 12) → x0 8 = P := fun h => hbad fun hk => h (hk i (by omega) (by omega))
   by_cases a1 : cuts.getD (i + 1) 0 ≤ cuts.getD i 0
   · rw [cbT a1]; exact bad (by omega)
   rw [cbF a1, asT (by omega), asT (by omega), asC (by omega), ints_iv (by omega)]
   by_cases a2 : dens.getD i 0 < 0
   · rw [cbT a2]; exact bad (by omega)
   rw [cbF a2, asT (by omega), asT (by omega), asC (by omega)]
   by_cases a3 : dens.getD i 0 > 12
   · rw [cbT a3]; exact bad (by omega)
   rw [cbF a3]
   have hj2 : ∀ j, j < i + 1 → cuts.getD j 0 < cuts.getD (j + 1) 0 ∧ 0 ≤ dens.getD j 0 ∧ dens.getD j 0 ≤ 12 := by
     intro j hlt
     by_cases e : j = i
     · subst e; omega
     · exact hj j (by omega)
   have ex : ∀ c : Bool, (c = true ↔ (b = true ∨ 0 < dens.getD i 0)) → c = decide (∃ j, j < i + 1 ∧ 0 < dens.getD j 0) := by
     intro c hc
     rw [Bool.eq_iff_iff, hc, hb, decide_eq_true_iff, decide_eq_true_iff]
     constructor
     · rintro (⟨j, h1, h2⟩ | h)
       · exact ⟨j, by omega, h2⟩
       · exact ⟨i, by omega, h⟩
     · rintro ⟨j, h1, h2⟩
       by_cases e : j = i
       · subst e; exact .inr h2
       · exact .inl ⟨j, by omega, h2⟩
   cases b with
   | true =>
     rw [cbr_true]
     exact dCheck_loop l1 l2 x0 x1 P hbad hgood r (i + 1) n true (by omega) (by omega) hj2 (ex _ (by simp))
   | false =>
     rw [cbr_false, asT (by omega), asT (by omega), asC (by omega)]
     exact dCheck_loop l1 l2 x0 x1 P hbad hgood r (i + 1) n _ (by omega) (by omega) hj2 (ex _ (by simp))
theorem dCheck_eq (h1 : cuts.length < 4611686018427387904) (h2 : dens.length < 4611686018427387904) (K : Int → Prop) :
   w_r02_Check len (ints cuts) (ints dens) K = K (ckC len cuts dens) := by
 refine det_r02_Check _ _ _ _ (fun K k => ?_) K
 unfold w_r02_Check wv_r02_Check
 simp only [ints_len]
 have bad : ¬ (len > 1000 ∨ cuts.length > 40) → ¬ VC len cuts dens → K 8 := fun h h2 => by
   rw [ckC, if_neg h, if_neg h2] at k; exact k
 by_cases a1 : len > 1000
 · rw [cbT a1]; rw [ckC, if_pos (.inl a1)] at k; exact k
 rw [cbF a1]
 by_cases a2 : cuts.length > 40
 · rw [cbT (by omega)]; rw [ckC, if_pos (.inr a2)] at k; exact k
 have a12 : ¬ (len > 1000 ∨ cuts.length > 40) := by omega
 rw [cbF (by omega)]
 by_cases a3 : len < 1
 · rw [cbT a3]; exact bad a12 (fun h => by have := h.1; omega)
 rw [cbF a3]
 by_cases a4 : cuts.length < 2
 · rw [cbT (by omega)]; exact bad a12 (fun h => by have := h.2.2.1; omega)
 rw [cbF (by omega), wib (n := (cuts.length : Int) - 1) (by omega) (by omega)]
 by_cases a5 : dens.length + 1 = cuts.length
 case neg => rw [cnT (by omega)]; exact bad a12 (fun h => a5 h.2.2.2.2.1)
 rw [cnF (by omega), asT (by omega), asC (by omega), ints_iv (by omega)]
 by_cases a6 : cuts.getD 0 0 = 0
 case neg => rw [cnT a6]; exact bad a12 (fun h => a6 h.2.2.2.2.2.1)
 rw [cnF a6, asT (by omega), asT (by omega), asC (by omega), ints_iv (by omega)]
 have en : ((cuts.length : Int) - 1).toNat = cuts.length - 1 := by omega
 rw [en]
 by_cases a7 : cuts.getD (cuts.length - 1) 0 = len
 case neg => rw [cnT a7]; exact bad a12 (fun h => a7 h.2.2.2.2.2.2.1)
 rw [cnF a7]
 have mem : ∀ d, d ∈ dens ↔ ∃ j, j < dens.length ∧ dens.getD j 0 = d := by
   intro d
   rw [List.mem_iff_getElem]
   constructor
   · rintro ⟨j, hj, e⟩; exact ⟨j, hj, by rw [List.getD_eq_getElem?_getD, List.getElem?_eq_getElem hj]; exact e⟩
   · rintro ⟨j, hj, e⟩; exact ⟨j, hj, by rw [List.getD_eq_getElem?_getD, List.getElem?_eq_getElem hj] at e; exact e⟩
 refine ⟨dens.length + 1, ?_⟩
 refine (dCheck_loop a5 h2 _ _ (K (ckC len cuts dens)) (fun hk => ?_) (fun b hk hb => ?_) dens.length 0 (dens.length + 1) false (by omega) (by omega) (fun j h => by omega) (by simp)).mpr k
 · have hv : ¬ VC len cuts dens := fun h => hk fun j _ hj => ⟨h.step (by omega), h.den hj⟩
   rw [ckC, if_neg a12, if_neg hv]
 · have hsome : someD dens ↔ ∃ j, j < dens.length ∧ 0 < dens.getD j 0 := by
     constructor
     · rintro ⟨d, hd, h0⟩
       obtain ⟨j, hj, e⟩ := (mem d).1 hd
       exact ⟨j, hj, by rw [e]; exact h0⟩
     · rintro ⟨j, hj, h0⟩; exact ⟨_, (mem _).2 ⟨j, hj, rfl⟩, h0⟩
   have hv : VC len cuts dens ↔ someD dens := by
     refine ⟨fun h => h.2.2.2.2.2.2.2.2.2, fun h => ⟨by omega, by omega, by omega, by omega, a5, a6, a7, fun j _ hj => (hk j (by omega) (by omega)).1, fun d hd => ?_, h⟩⟩
     obtain ⟨j, hj, e⟩ := (mem d).1 hd
     rw [← e]; exact (hk j (by omega) hj).2
   rw [ckC, if_neg a12]
   by_cases hs : someD dens
   · rw [if_pos (hv.2 hs), hb, decide_eq_true (hsome.1 hs)]; rfl
   · rw [if_neg (fun x => hs (hv.1 x)), hb, decide_eq_false (fun x => hs (hsome.2 x))]; rfl
end
end Go.Pf.Vc
namespace Go.Pf.Vc
open Go Go.Pf
section
variable {len : Int} {cuts dens : List Int}
theorem fit_ok {α : Type} {q : Rat} {k : Rat → Except Int α} (h : small q) : fit q k = k q := if_pos h
theorem exK_ok {q : Rat} {K : Int → Int → Int → Prop} : exK (.ok q) K = K q.num q.den 0 := rfl
theorem exK_er {c : Int} {K : Int → Int → Int → Prop} : exK (.error c) K = K 0 0 c := rfl
end
end Go.Pf.Vc
namespace Go.Pf.Vc
open Go Go.Pf
structure Ck where
 len : Int
 cuts : List Int
 dens : List Int
instance : Inhabited Ck := ⟨⟨0, [], []⟩⟩
def encC (c : Ck) : PV := .agg [.int .i64 c.len, .data (ints c.cuts), .data (ints c.dens)]
def cks (l : List Ck) : List PV := l.map encC
def Ck.fin (c : Ck) : Prop := c.cuts.length < 4611686018427387904 ∧ c.dens.length < 4611686018427387904
def Ck.err (c : Ck) : Int := ckC c.len c.cuts c.dens
def Ck.ok (c : Ck) : Prop := VC c.len c.cuts c.dens
instance (c : Ck) : Decidable c.ok := by unfold Ck.ok; infer_instance
theorem cks_len (l : List Ck) : (cks l).length = l.length := List.length_map ..
theorem cks_at {l : List Ck} {i : Nat} (h : i < l.length) : List.getD (cks l) i .nils = encC (l.getD i default) := by
 unfold cks
 rw [List.getD_eq_getElem?_getD, List.getD_eq_getElem?_getD, List.getElem?_map, List.getElem?_eq_getElem h]
 rfl
theorem drop_cons {α : Type} {l : List α} {i : Nat} (d : α) (h : i < l.length) : l.drop i = l.getD i d :: l.drop (i + 1) := by
 rw [List.drop_eq_getElem_cons h, List.getD_eq_getElem?_getD, List.getElem?_eq_getElem h]; rfl
theorem asCk {c : Ck} {P : Prop} : asr (conf zK (encC c)) P = P := rfl
theorem ck0 (c : Ck) : intOfV (cellAt (encC c) 0) = c.len := rfl
theorem ck1 (c : Ck) : datOfV (cellAt (encC c) 1) = ints c.cuts := rfl
theorem ck2 (c : Ck) : datOfV (cellAt (encC c) 2) = ints c.dens := rfl
def firstE : List Ck → Int
 | [] => 0
 | c :: t => if c.err = 0 then firstE t else c.err
def lensOk (n : Int) : List Ck → Bool
 | [] => true
 | c :: t => decide (c.len = n) && lensOk n t
def deskE (l : List Ck) (m : Nat) : Int :=
 if l.length > 6 then 4 else if m > 2000 then 4 else if l.length = 0 then 8 else if firstE l = 0 then (if lensOk (l.getD 0 default).len l then 0 else 8) else firstE l
section
variable {l : List Ck}
def finC (l : List Ck) : Prop := ∀ i, i < l.length → (l.getD i default).fin
theorem aCheck0 (hf : finC l) (hl : l.length < 4611686018427387904) (x0 : Int → Prop) (x1 : List PV → List PV → List PV → Int → Int → Bool → Prop) (lg : List PV) :
   ∀ (r i n : Nat), i + r = l.length → r < n → L_ask_Check_0_0 w_cake_Check x0 x1 n (cks l) lg (cks l) l.length i =
     if firstE (l.drop i) = 0 then x1 (cks l) lg (cks l) l.length l.length false else x0 (firstE (l.drop i))
 | 0, i, n + 1, hi, hn => by
   unfold L_ask_Check_0_0
   rw [cbF (by omega), List.drop_of_length_le (by omega), show (i : Int) = l.length by omega]; rfl
 | r + 1, i, n + 1, hi, hn => by
   unfold L_ask_Check_0_0
   have e1 := wib (n := (i : Int) + 1) (by omega) (by omega)
   obtain ⟨f1, f2⟩ := hf i (by omega)
   rw [cbT (by omega), cks_len, Int.toNat_natCast, cks_at (by omega), asT (by omega), asT (by omega), asCk, ck0, ck1, ck2, cCheck_eq (by omega) (by omega), drop_cons default (by omega), firstE, e1, cast1]
   show cbr ((l.getD i default).err != 0) _ _ = _
   by_cases h : (l.getD i default).err = 0
   · rw [cnF h, if_pos h]; exact aCheck0 hf hl x0 x1 lg r (i + 1) n (by omega) (by omega)
   · rw [cnT h, if_neg h, if_neg h]; rfl
theorem aCheck1 (hl : l.length < 4611686018427387904) (x0 : Int → Prop) (x1 : List PV → List PV → List PV → Int → Int → Bool → Prop) (lg : List PV) (W) :
   ∀ (r i n : Nat), i + r = l.length → r < n → L_ask_Check_1_0 W x0 x1 n (cks l) lg (cks l) l.length i =
     if lensOk (l.getD 0 default).len (l.drop i) then x1 (cks l) lg (cks l) l.length l.length false else x0 8
 | 0, i, n + 1, hi, hn => by
   unfold L_ask_Check_1_0
   rw [cbF (by omega), List.drop_of_length_le (by omega), show (i : Int) = l.length by omega]; rfl
 | r + 1, i, n + 1, hi, hn => by
   unfold L_ask_Check_1_0
   have e1 := wib (n := (i : Int) + 1) (by omega) (by omega)
   rw [cbT (by omega), cks_len, Int.toNat_natCast, cks_at (by omega), cks_at (by omega), asT (by omega), asT (by omega), asCk, asT (by omega), asCk, ck0, ck0, drop_cons default (by omega), lensOk, e1, cast1]
   by_cases h : (l.getD i default).len = (l.getD 0 default).len
   · rw [cnF h, decide_eq_true h, Bool.true_and]; exact aCheck1 hl x0 x1 lg W r (i + 1) n (by omega) (by omega)
   · rw [cnT h, decide_eq_false h, Bool.false_and, if_neg (by simp)]
theorem aCheck_eq (hf : finC l) (hl : l.length < 4611686018427387904) (lg : List PV) (K : Int → Prop) : w_ask_Check (cks l) lg K = K (deskE l lg.length) := by
 refine det_ask_Check _ _ _ (fun K k => ?_) K
 unfold w_ask_Check wv_ask_Check
 unfold deskE at k
 rw [cks_len]
 by_cases a1 : l.length > 6
 · rw [cbT (by omega)]; rw [if_pos a1] at k; exact k
 rw [cbF (by omega)]; rw [if_neg a1] at k
 by_cases a2 : lg.length > 2000
 · rw [cbT (by omega)]; rw [if_pos a2] at k; exact k
 rw [cbF (by omega)]; rw [if_neg a2] at k
 by_cases a3 : l.length = 0
 · rw [ceT (by omega)]; rw [if_pos a3] at k; exact k
 rw [ceF (by omega)]; rw [if_neg a3] at k
 refine ⟨l.length + 1, ?_⟩
 have h0 := aCheck0 hf hl (fun yi1 => K yi1) (fun yl2 yl3 yl4 yi5 yi6 yb7 => (∃ n12157601 : Nat, L_ask_Check_1_0 w_cake_Check (fun yi8 => (K yi8)) (fun yl9 yl10 yl11 yi12 yi13 yb14 => (K (0 : Int))) n12157601 yl2 yl3 yl2 (((List.length yl2) : Nat) : Int) (0 : Int))) lg l.length 0 (l.length + 1) (by omega) (by omega)
 rw [show ((0 : Nat) : Int) = 0 from rfl, List.drop_zero] at h0
 rw [h0]
 by_cases a4 : firstE l = 0
 · rw [if_pos a4] at k ⊢
   refine ⟨l.length + 1, ?_⟩
   have h1 := aCheck1 hl (fun yi8 => (K yi8)) (fun yl9 yl10 yl11 yi12 yi13 yb14 => (K (0 : Int))) lg w_cake_Check l.length 0 (l.length + 1) (by omega) (by omega)
   rw [show ((0 : Nat) : Int) = 0 from rfl, List.drop_zero] at h1
   rw [cks_len, h1]
   split at k <;> rename_i h <;> simp only [h] <;> exact k
 · rw [if_neg a4] at k ⊢; exact k
theorem fCheck0 (hf : finC l) (hl : l.length < 4611686018427387904) (x0 : Int → Prop) (x1 : List PV → List PV → Int → Bool → Prop) (lg : List PV) :
   ∀ (r i n : Nat), i + r = l.length → r < n → L_r04_Check_0_0 w_r02_Check x0 x1 n (cks l) lg i =
     if firstE (l.drop i) = 0 then x1 (cks l) lg l.length false else x0 (firstE (l.drop i))
 | 0, i, n + 1, hi, hn => by
   unfold L_r04_Check_0_0
   rw [cks_len, cbF (by omega), List.drop_of_length_le (by omega), show (i : Int) = l.length by omega]; rfl
 | r + 1, i, n + 1, hi, hn => by
   unfold L_r04_Check_0_0
   have e1 := wib (n := (i : Int) + 1) (by omega) (by omega)
   obtain ⟨f1, f2⟩ := hf i (by omega)
   rw [cks_len, cbT (by omega), Int.toNat_natCast, cks_at (by omega), asT (by omega), asT (by omega), asCk, ck0, ck1, ck2, dCheck_eq (by omega) (by omega), drop_cons default (by omega), firstE, e1, cast1]
   show cbr ((l.getD i default).err != 0) _ _ = _
   by_cases h : (l.getD i default).err = 0
   · rw [cnF h, if_pos h]; exact fCheck0 hf hl x0 x1 lg r (i + 1) n (by omega) (by omega)
   · rw [cnT h, if_neg h, if_neg h, asT (by omega), asT (by omega), asCk, dCheck_eq (by omega) (by omega)]; rfl
theorem fCheck1 (hl : l.length < 4611686018427387904) (x0 : Int → Prop) (x1 : List PV → List PV → Int → Bool → Prop) (lg : List PV) (W) :
   ∀ (r i n : Nat), i + r = l.length → r < n → L_r04_Check_1_0 W x0 x1 n (cks l) lg i =
     if lensOk (l.getD 0 default).len (l.drop i) then x1 (cks l) lg l.length false else x0 8
 | 0, i, n + 1, hi, hn => by
   unfold L_r04_Check_1_0
   rw [cks_len, cbF (by omega), List.drop_of_length_le (by omega), show (i : Int) = l.length by omega]; rfl
 | r + 1, i, n + 1, hi, hn => by
   unfold L_r04_Check_1_0
   have e1 := wib (n := (i : Int) + 1) (by omega) (by omega)
   rw [cks_len, cbT (by omega), Int.toNat_natCast, cks_at (by omega), cks_at (by omega), asT (by omega), asT (by omega), asCk, asT (by omega), asCk, ck0, ck0, drop_cons default (by omega), lensOk, e1, cast1]
   by_cases h : (l.getD i default).len = (l.getD 0 default).len
   · rw [cnF h, decide_eq_true h, Bool.true_and]; exact fCheck1 hl x0 x1 lg W r (i + 1) n (by omega) (by omega)
   · rw [cnT h, decide_eq_false h, Bool.false_and, if_neg (by simp)]
theorem fCheck_eq (hf : finC l) (hl : l.length < 4611686018427387904) (lg : List PV) (K : Int → Prop) : w_r04_Check (cks l) lg K = K (deskE l lg.length) := by
 refine det_r04_Check _ _ _ (fun K k => ?_) K
 unfold w_r04_Check wv_r04_Check
 unfold deskE at k
 rw [cks_len]
 by_cases a1 : l.length > 6
 · rw [cbT (by omega)]; rw [if_pos a1] at k; exact k
 rw [cbF (by omega)]; rw [if_neg a1] at k
 by_cases a2 : lg.length > 2000
 · rw [cbT (by omega)]; rw [if_pos a2] at k; exact k
 rw [cbF (by omega)]; rw [if_neg a2] at k
 by_cases a3 : l.length = 0
 · rw [ceT (by omega)]; rw [if_pos a3] at k; exact k
 rw [ceF (by omega)]; rw [if_neg a3] at k
 refine ⟨l.length + 1, ?_⟩
 have h0 := fCheck0 hf hl (fun yi1 => K yi1) (fun yl3 yl4 yi5 yb6 => (∃ n6981301 : Nat, L_r04_Check_1_0 w_r02_Check (fun yi7 => (K yi7)) (fun yl8 yl9 yi10 yb11 => (K (0 : Int))) n6981301 yl3 yl4 (0 : Int))) lg l.length 0 (l.length + 1) (by omega) (by omega)
 rw [show ((0 : Nat) : Int) = 0 from rfl, List.drop_zero] at h0
 rw [h0]
 by_cases a4 : firstE l = 0
 · rw [if_pos a4] at k ⊢
   refine ⟨l.length + 1, ?_⟩
   have h1 := fCheck1 hl (fun yi7 => (K yi7)) (fun yl8 yl9 yi10 yb11 => (K (0 : Int))) lg w_r02_Check l.length 0 (l.length + 1) (by omega) (by omega)
   rw [show ((0 : Nat) : Int) = 0 from rfl, List.drop_zero] at h1
   rw [h1]
   split at k <;> rename_i h <;> simp only [h] <;> exact k
 · rw [if_neg a4] at k ⊢; exact k
def Ck.low (c : Ck) : Prop := c.cuts.length ≤ 1000 ∧ c.dens.length ≤ 1000
def lowC (l : List Ck) : Prop := ∀ i, i < l.length → (l.getD i default).low
theorem headOk_ints (l : List Int) : headOk 1 (ints l) = true := by cases l <;> rfl
theorem clone_eq {l : List Int} (h : l.length ≤ 1000) (K : List PV → Prop) : w_s_Clone_int_int (ints l) K = K (ints l) := by
 show asr (cloneOk 1 8 (ints l)) (K (ints l)) = _
 have : cloneOk 1 8 (ints l) = true := by
   unfold cloneOk
   rw [headOk_ints, ints_len, Bool.true_and, decide_eq_true_iff]
   unfold room; omega
 rw [this, asr_true]
theorem asTT {c : Bool} {P : Prop} (h : c = true) : asr c P = P := by rw [h, asr_true]
theorem copied1 (hf : lowC l) (hl : l.length ≤ 1000) (x0 : List PV → List PV → Int → Int → Bool → Prop) (x1 : List PV → Int → Int → Bool → Prop) :
   ∀ (r i n : Nat) (acc : List PV), i + r = l.length → r < n → acc.length ≤ i → L_ask_copied_0_1 w_s_Clone_int_int x0 x1 n acc (cks l) l.length i = x0 (acc ++ cks (l.drop i)) (cks l) l.length l.length false
 | 0, i, n + 1, acc, hi, hn, ha => by
   unfold L_ask_copied_0_1
   rw [cbF (by omega), List.drop_of_length_le (by omega), show (i : Int) = l.length by omega]
   show _ = x0 (acc ++ []) _ _ _ _
   rw [List.append_nil]
 | r + 1, i, n + 1, acc, hi, hn, ha => by
   unfold L_ask_copied_0_1
   have e1 := wib (n := (i : Int) + 1) (by omega) (by omega)
   obtain ⟨f1, f2⟩ := hf i (by omega)
   rw [cbT (by omega), cks_len, Int.toNat_natCast, cks_at (by omega), asT (by omega), asT (by omega), asCk, ck0, ck1, ck2, clone_eq f1, clone_eq f2, asT rfl, asT (by omega), asTT (by rw [decide_eq_false (by omega)]; rfl), asT rfl, asT (by unfold room; omega), asTT (by simp), e1, cast1]
   rw [copied1 hf hl x0 x1 r (i + 1) n _ (by omega) (by omega) (by simp; omega), drop_cons (i := i) default (by omega), List.append_assoc]; rfl
theorem copied_eq (hf : lowC l) (hl : l.length ≤ 1000) (K : List PV → Prop) : w_ask_copied (cks l) K = K (cks l) := by
 refine det_ask_copied _ _ (fun K k => ?_) K
 unfold w_ask_copied wv_ask_copied
 cases hc : l with
 | nil =>
   refine ⟨0 + 1, ?_⟩
   rw [hc] at k
   rw [L_ask_copied_0_0, cks_len, cbF (by simp)]
   exact k
 | cons c t =>
   rw [← hc]
   have h0 : 0 < l.length := by rw [hc]; exact Nat.zero_lt_succ _
   refine ⟨(l.length + 1) + 1, ?_⟩
   rw [L_ask_copied_0_0]
   obtain ⟨f1, f2⟩ := hf 0 (by omega)
   have e1 := wib (n := (0 : Int) + 1) (by omega) (by omega)
   rw [cks_len, cbT (by omega), show (0 : Int).toNat = 0 from rfl, cks_at (by omega), asT (by omega), asT (by omega), asCk, ck0, ck1, ck2, clone_eq f1, clone_eq f2, asTT (by simp), e1, show (0 : Int) + 1 = ((0 + 1 : Nat) : Int) from rfl]
   rw [copied1 hf hl _ _ (l.length - 1) (0 + 1) (l.length + 1) _ (by omega) (by omega) (by simp)]
   have e : [PV.agg [PV.int IntKind.i64 (l.getD 0 default).len, PV.data (ints (l.getD 0 default).cuts), PV.data (ints (l.getD 0 default).dens)]] ++ cks (l.drop (0 + 1)) = cks l := by
     conv => rhs; rw [← List.drop_zero (l := l), drop_cons default h0]
     rfl
   rw [e, asT rfl, asT (by omega), List.take_length]
   exact k
end
end Go.Pf.Vc
namespace Go.Pf.Vc
open Go Go.Pf
section
variable {l : List Ck}
theorem firstE_zero : ∀ (l : List Ck), firstE l = 0 → ∀ i, i < l.length → (l.getD i default).ok
 | c :: t, h, 0, _ => by
   unfold firstE at h
   split at h
   · rename_i h1; exact ckC_zero h1
   · rename_i h1; exact absurd h h1
 | c :: t, h, i + 1, hi => by
   unfold firstE at h
   split at h
   · exact firstE_zero t h i (by simpa using hi)
   · rename_i h1; exact absurd h h1
theorem lensOk_all {n : Int} : ∀ (l : List Ck), lensOk n l = true → ∀ i, i < l.length → (l.getD i default).len = n
 | c :: t, h, 0, _ => by
   unfold lensOk at h
   simp only [Bool.and_eq_true, decide_eq_true_eq] at h
   exact h.1
 | c :: t, h, i + 1, hi => by
   unfold lensOk at h
   simp only [Bool.and_eq_true, decide_eq_true_eq] at h
   exact lensOk_all t h.2 i (by simpa using hi)
structure DK (l : List Ck) : Prop where
 n6 : l.length ≤ 6
 n0 : 1 ≤ l.length
 ok : ∀ i, i < l.length → (l.getD i default).ok
 len : ∀ i, i < l.length → (l.getD i default).len = (l.getD 0 default).len
theorem deskE_zero {m : Nat} (h : deskE l m = 0) : DK l ∧ m ≤ 2000 := by
 unfold deskE at h
 split at h
 · omega
 split at h
 · omega
 split at h
 · omega
 split at h
 · rename_i h0 h1 h2 h3
   split at h
   · rename_i h4
     exact ⟨⟨by omega, by omega, firstE_zero l h3, lensOk_all l h4⟩, by omega⟩
   · omega
 · rename_i h3; exact absurd h h3
theorem DK.err {l : List Ck} (h : DK l) {m : Nat} (hm : m ≤ 2000) : deskE l m = 0 := by
 have f : ∀ l : List Ck, (∀ i, i < l.length → (l.getD i default).ok) → firstE l = 0 := by
   intro l
   induction l with
   | nil => intro _; rfl
   | cons c t ih =>
     intro h
     unfold firstE
     rw [if_pos (show c.err = 0 from (h 0 (Nat.zero_lt_succ _)).ck)]
     exact ih fun i hi => h (i + 1) (by simpa using hi)
 have g : ∀ (n : Int) (l : List Ck), (∀ i, i < l.length → (l.getD i default).len = n) → lensOk n l = true := by
   intro n l
   induction l with
   | nil => intro _; rfl
   | cons c t ih =>
     intro h
     unfold lensOk
     rw [Bool.and_eq_true, decide_eq_true_eq]
     exact ⟨h 0 (Nat.zero_lt_succ _), ih fun i hi => h (i + 1) (by simpa using hi)⟩
 have := h.n6; have := h.n0
 unfold deskE
 rw [if_neg (by omega), if_neg (by omega), if_neg (by omega), if_pos (f l h.ok), if_pos (g _ l h.len)]
theorem DK.low {l : List Ck} (h : DK l) : lowC l := fun i hi => by
 have h1 := (h.ok i hi).l1; have h2 := (h.ok i hi).l2
 exact ⟨by omega, by omega⟩
theorem DK.fin {l : List Ck} (h : DK l) : finC l := fun i hi => by
 have h1 := (h.ok i hi).l1; have h2 := (h.ok i hi).l2
 exact ⟨by omega, by omega⟩
theorem aOpen_eq (hf : finC l) (hl : l.length < 4611686018427387904) (K : List PV → List PV → Int → Prop) : w_ask_Open (cks l) K = if deskE l 0 = 0 then K (cks l) [] 0 else K [] [] (deskE l 0) := by
 unfold w_ask_Open wv_ask_Open
 rw [aCheck_eq hf hl]
 show cbr (deskE l 0 != 0) _ _ = _
 by_cases h : deskE l 0 = 0
 · have hd := (deskE_zero h).1
   rw [cnF h, if_pos h, copied_eq hd.low (by have := hd.n6; omega)]
 · rw [cnT h, if_neg h]; rfl
def qrow (agent kind an ad bn bd cn cd : Int) : PV := .agg [.int .i64 agent, .int .u8 kind, .int .i64 an, .int .i64 ad, .int .i64 bn, .int .i64 bd, .int .i64 cn, .int .i64 cd]
def qryR (l : List Ck) (m : Nat) (agent : Int) (ans : Ck → Except Int Rat) : Except Int Rat :=
 if deskE l m = 0 then (if 0 ≤ agent ∧ agent < l.length then (match ans (l.getD agent.toNat default) with
   | .ok p => if m ≥ 2000 then .error 4 else .ok p
   | .error e => .error e) else .error 2) else .error (deskE l m)
def qryK (l : List Ck) (lg : List PV) (row : Rat → PV) (e : Except Int Rat) (K : List PV → List PV → Int → Int → Int → Prop) : Prop :=
 match e with
 | .ok p => K (cks l) (lg ++ [row p]) p.num p.den 0
 | .error c => K [] [] 0 0 c
theorem det_q {w : (List PV → List PV → Int → Int → Int → Prop) → Prop} {l : List Ck} {lg : List PV} {row : Rat → PV} {e : Except Int Rat} (det : ∀ r0 r1 r2 r3 r4, (∀ K : List PV → List PV → Int → Int → Int → Prop, K r0 r1 r2 r3 r4 → w K) → ∀ K, w K = K r0 r1 r2 r3 r4)
   (h : ∀ K, qryK l lg row e K → w K) (K) : w K = qryK l lg row e K := by
 cases e with
 | ok q => exact det _ _ _ _ _ h K
 | error c => exact det _ _ _ _ _ h K
theorem mk1 {z q : PV} {lg : List PV} {m : Nat} (hm : m = lg.length) :
   List.take ((0 + m) + 1) ((List.take (0 + (0 + m)) (lg ++ (List.drop (0 + m) (List.replicate (m + 1) z)))) ++ (([q] : List PV) ++ (List.drop ((0 + (0 + m)) + 1) (lg ++ (List.drop (0 + m) (List.replicate (m + 1) z)))))) = lg ++ [q] := by
 subst hm
 simp
 rw [List.take_of_length_le (by simp)]
theorem has_eq (lg : List PV) (agent : Int) (K : Bool → Prop) : w_ask_office_has (cks l) lg agent K = K (decide (0 ≤ agent ∧ agent < l.length)) := by
 unfold w_ask_office_has wv_ask_office_has
 rw [cks_len]
 by_cases h : agent ≥ 0
 · rw [cbT h]
   congr 1
   rw [decide_eq_decide]; omega
 · rw [cbF h, decide_eq_false (by omega)]
def Ck.mark (an ad vn vd : Int) (c : Ck) : Except Int Rat := mrkR c.len c.cuts c.dens an ad vn vd
def Ck.value (an ad bn bd : Int) (c : Ck) : Except Int Rat := valR c.len c.cuts c.dens an ad bn bd
theorem aMark_eq (hf : finC l) (hl : l.length < 4611686018427387904) {lg : List PV} (hlg : headOk 8 lg = true) {agent an ad vn vd : Int} (ha : I64 an) (ha' : I64 ad) (hv : I64 vn) (hv' : I64 vd) (K) :
   w_ask_Mark (cks l) lg agent an ad vn vd K = qryK l lg (fun p => qrow agent 2 an ad vn vd p.num p.den) (qryR l lg.length agent (Ck.mark an ad vn vd)) K := by
 refine det_q (fun r0 r1 r2 r3 r4 h K => det_ask_Mark _ _ _ _ _ _ _ r0 r1 r2 r3 r4 h K) (fun K k => ?_) K
 unfold w_ask_Mark wv_ask_Mark
 unfold qryR at k
 rw [aCheck_eq hf hl]
 by_cases h : deskE l lg.length = 0
 case neg => rw [cnT h]; rw [if_neg h] at k; exact k
 obtain ⟨hd, hm⟩ := deskE_zero h
 rw [if_pos h] at k
 rw [cnF h, has_eq]
 by_cases h2 : 0 ≤ agent ∧ agent < l.length
 case neg => rw [decide_eq_false h2, Bool.not_false, cbr_true]; rw [if_neg h2] at k; exact k
 rw [if_pos h2] at k
 obtain ⟨a, rfl⟩ : ∃ a : Nat, agent = a := ⟨agent.toNat, by omega⟩
 have ha2 : a < l.length := by omega
 rw [Int.toNat_natCast] at k
 obtain ⟨f1, f2⟩ := hf a ha2
 rw [decide_eq_true h2, Bool.not_true, cbr_false, w_ask_office_mark, wv_ask_office_mark, cks_len, Int.toNat_natCast, cks_at ha2, asT (by omega), asT (by omega), asCk, ck0, ck1, ck2, cMark_eq (by omega) (by omega) ha ha' hv hv']
 have em : Ck.mark an ad vn vd (l.getD a default) = mrkR (l.getD a default).len (l.getD a default).cuts (l.getD a default).dens an ad vn vd := rfl
 rw [em] at k
 cases hr : mrkR (l.getD a default).len (l.getD a default).cuts (l.getD a default).dens an ad vn vd with
 | error c =>
   rw [hr] at k
   have k : K [] [] 0 0 c := k
   rw [exK_er]
   have hc : c ≠ 0 := by
     intro hc
     subst hc
     unfold mrkR at hr
     split at hr
     · split at hr
       · unfold mrkC at hr
         split at hr
         · cases hr
         · have no : ∀ (r i : Nat) (p v : Rat), mrkS (l.getD a default).cuts (l.getD a default).dens r i p v ≠ .error 0 := by
             intro r
             induction r with
             | zero => intro i p v e; unfold mrkS at e; cases e
             | succ r ih =>
               intro i p v e
               unfold mrkS fit at e
               repeat' (first | split at e | dsimp only at e)
               all_goals first | exact ih _ _ _ e | cases e
           exact no _ _ _ _ hr
       · cases hr
     · rename_i h5; exact h5 (Except.error.inj hr)
   rw [cnT hc]; exact k
 | ok p =>
   rw [hr] at k
   rw [exK_ok, cnF rfl]
   by_cases h3 : lg.length ≥ 2000
   · rw [cbT (by omega)]
     have k : qryK l lg _ (if lg.length ≥ 2000 then .error 4 else .ok p) K := k
     rw [if_pos h3] at k; exact k
   · have k : qryK l lg _ (if lg.length ≥ 2000 then .error 4 else .ok p) K := k
     rw [if_neg h3] at k
     have k : K (cks l) (lg ++ [qrow a 2 an ad vn vd p.num p.den]) p.num p.den 0 := k
     have e1 := wib (n := (lg.length : Int) + 1) (by omega) (by omega)
     have e2 : ((lg.length : Int) + 1).toNat = lg.length + 1 := by omega
     rw [cbF (by omega), e1, e2, asT (by omega), asT (by unfold room; omega), copied_eq hd.low (by have := hd.n6; omega), hlg, asr_true]
     rw [asT (by simp), asT (by omega)]
     cases hlg2 : lg with
     | nil =>
       rw [List.isEmpty_nil, cbr_true, asT (by simp), asT (by simp), asT (by simp), asT (by simp), asT (by simp)]
       rw [hlg2] at k
       exact k
     | cons x t =>
       rw [← hlg2, show List.isEmpty lg = false by rw [hlg2]; rfl, cbr_false, asT (by omega), asT (by simp), asT (by omega), asT (by omega), asT (by simp), asT (by omega)]
       rw [mk1 rfl]
       exact k
end
end Go.Pf.Vc
namespace Go.Pf.Vc
open Go Go.Pf
section
variable {l : List Ck}
theorem valS_ne0 (cuts dens : List Int) (b : Rat) : ∀ (r i : Nat) (p v : Rat), valS cuts dens b r i p v ≠ .error 0 := by
 intro r
 induction r with
 | zero => intro i p v e; unfold valS at e; cases e
 | succ r ih =>
   intro i p v e
   unfold valS fit at e
   repeat' (first | split at e | dsimp only at e)
   all_goals first | exact ih _ _ _ e | cases e
theorem valR_ne0 {len : Int} {cuts dens : List Int} {an ad vn vd : Int} : valR len cuts dens an ad vn vd ≠ .error 0 := by
 intro hr
 unfold valR at hr
 split at hr
 · split at hr
   · exact valS_ne0 _ _ _ _ _ _ _ hr
   · cases hr
 · rename_i h5; exact h5 (Except.error.inj hr)
theorem aValue_eq (hf : finC l) (hl : l.length < 4611686018427387904) {lg : List PV} (hlg : headOk 8 lg = true) {agent an ad vn vd : Int} (ha : I64 an) (ha' : I64 ad) (hv : I64 vn) (hv' : I64 vd) (K) :
   w_ask_Value (cks l) lg agent an ad vn vd K = qryK l lg (fun p => qrow agent 1 an ad vn vd p.num p.den) (qryR l lg.length agent (Ck.value an ad vn vd)) K := by
 refine det_q (fun r0 r1 r2 r3 r4 h K => det_ask_Value _ _ _ _ _ _ _ r0 r1 r2 r3 r4 h K) (fun K k => ?_) K
 unfold w_ask_Value wv_ask_Value
 unfold qryR at k
 rw [aCheck_eq hf hl]
 by_cases h : deskE l lg.length = 0
 case neg => rw [cnT h]; rw [if_neg h] at k; exact k
 obtain ⟨hd, hm⟩ := deskE_zero h
 rw [if_pos h] at k
 rw [cnF h, has_eq]
 by_cases h2 : 0 ≤ agent ∧ agent < l.length
 case neg => rw [decide_eq_false h2, Bool.not_false, cbr_true]; rw [if_neg h2] at k; exact k
 rw [if_pos h2] at k
 obtain ⟨a, rfl⟩ : ∃ a : Nat, agent = a := ⟨agent.toNat, by omega⟩
 have ha2 : a < l.length := by omega
 rw [Int.toNat_natCast] at k
 obtain ⟨f1, f2⟩ := hf a ha2
 rw [decide_eq_true h2, Bool.not_true, cbr_false, w_ask_office_value, wv_ask_office_value, cks_len, Int.toNat_natCast, cks_at ha2, asT (by omega), asT (by omega), asCk, ck0, ck1, ck2, cValue_eq (by omega) (by omega) ha ha' hv hv']
 have em : Ck.value an ad vn vd (l.getD a default) = valR (l.getD a default).len (l.getD a default).cuts (l.getD a default).dens an ad vn vd := rfl
 rw [em] at k
 cases hr : valR (l.getD a default).len (l.getD a default).cuts (l.getD a default).dens an ad vn vd with
 | error c =>
   rw [hr] at k
   have k : K [] [] 0 0 c := k
   rw [exK_er]
   have hc : c ≠ 0 := fun hc => valR_ne0 (hc ▸ hr)
   rw [cnT hc]; exact k
 | ok p =>
   rw [hr] at k
   rw [exK_ok, cnF rfl]
   by_cases h3 : lg.length ≥ 2000
   · rw [cbT (by omega)]
     have k : qryK l lg _ (if lg.length ≥ 2000 then .error 4 else .ok p) K := k
     rw [if_pos h3] at k; exact k
   · have k : qryK l lg _ (if lg.length ≥ 2000 then .error 4 else .ok p) K := k
     rw [if_neg h3] at k
     have k : K (cks l) (lg ++ [qrow a 1 an ad vn vd p.num p.den]) p.num p.den 0 := k
     have e1 := wib (n := (lg.length : Int) + 1) (by omega) (by omega)
     have e2 : ((lg.length : Int) + 1).toNat = lg.length + 1 := by omega
     rw [cbF (by omega), e1, e2, asT (by omega), asT (by unfold room; omega), copied_eq hd.low (by have := hd.n6; omega), hlg, asr_true]
     rw [asT (by simp), asT (by omega)]
     cases hlg2 : lg with
     | nil =>
       rw [List.isEmpty_nil, cbr_true, asT (by simp), asT (by simp), asT (by simp), asT (by simp), asT (by simp)]
       rw [hlg2] at k
       exact k
     | cons x t =>
       rw [← hlg2, show List.isEmpty lg = false by rw [hlg2]; rfl, cbr_false, asT (by omega), asT (by simp), asT (by omega), asT (by omega), asT (by simp), asT (by omega)]
       rw [mk1 rfl]
       exact k
def greatC (l : List Ck) : Bool := l.any (fun c => decide (c.cuts.length > 60) || decide (c.dens.length > 60)) || decide (l.length > 10)
theorem dGreat_eq {len : Int} {cuts dens : List Int} (K : Bool → Prop) : w_r02_Great len (ints cuts) (ints dens) K = K (decide (cuts.length > 60) || decide (dens.length > 60)) := by
 unfold w_r02_Great wv_r02_Great
 rw [ints_len, ints_len]
 by_cases h : cuts.length > 60
 · rw [cbT (by omega), decide_eq_true h]; rfl
 · rw [cbF (by omega), decide_eq_false h, Bool.false_or]
   congr 1; rw [decide_eq_decide]; omega
theorem GreatCakes_loop (hl : l.length ≤ 9223372036854775807) (K : Bool → Prop) :
   ∀ (r i n : Nat), i + r = l.length → r < n → L_r04_GreatCakes_0_0 w_r02_Great (fun yb1 => (K yb1)) (fun yl2 _ _ => (K (decide ((((List.length yl2) : Nat) : Int) > (10 : Int))))) n (cks l) i =
     K ((l.drop i).any (fun c => decide (c.cuts.length > 60) || decide (c.dens.length > 60)) || decide (l.length > 10))
 | 0, i, n + 1, hi, hn => by
   unfold L_r04_GreatCakes_0_0
   rw [cks_len, cbF (by omega), List.drop_of_length_le (by omega)]
   show K _ = K (false || _)
   rw [Bool.false_or]
   congr 1; rw [decide_eq_decide]; omega
 | r + 1, i, n + 1, hi, hn => by
   unfold L_r04_GreatCakes_0_0
   have e1 := wib (n := (i : Int) + 1) (by omega) (by omega)
   rw [cks_len, cbT (by omega), Int.toNat_natCast, cks_at (by omega), asT (by omega), asT (by omega), asCk, ck0, ck1, ck2, dGreat_eq, drop_cons default (by omega), List.any_cons, e1, cast1]
   cases hb : (decide ((l.getD i default).cuts.length > 60) || decide ((l.getD i default).dens.length > 60)) with
   | true => rw [cbr_true]; rfl
   | false => rw [cbr_false, Bool.false_or]; exact GreatCakes_loop hl K r (i + 1) n (by omega) (by omega)
theorem GreatCakes_eq (hl : l.length ≤ 9223372036854775807) (K : Bool → Prop) : w_r04_GreatCakes (cks l) K = K (greatC l) := by
 refine det_r04_GreatCakes _ _ (fun K k => ?_) K
 unfold w_r04_GreatCakes wv_r04_GreatCakes
 refine ⟨l.length + 1, ?_⟩
 have := GreatCakes_loop hl K l.length 0 (l.length + 1) (by omega) (by omega)
 rw [show ((0 : Nat) : Int) = 0 from rfl, List.drop_zero] at this
 rw [this]; exact k
theorem greatC_low (h : greatC l = false) : l.length ≤ 10 ∧ lowC l ∧ finC l := by
 unfold greatC at h
 simp only [Bool.or_eq_false_iff, decide_eq_false_iff_not, List.any_eq_false, Bool.not_eq_true, Nat.not_lt] at h
 have hh : ∀ i, i < l.length → (l.getD i default).cuts.length ≤ 60 ∧ (l.getD i default).dens.length ≤ 60 := by
   intro i hi
   have hm : l.getD i default ∈ l := by rw [List.getD_eq_getElem?_getD, List.getElem?_eq_getElem hi]; exact List.getElem_mem hi
   have := h.1 _ hm
   omega
 exact ⟨by omega, fun i hi => ⟨by have := hh i hi; omega, by have := hh i hi; omega⟩, fun i hi => ⟨by have := hh i hi; omega, by have := hh i hi; omega⟩⟩
theorem small_div {n d : Int} (hn : -1000000000000000000 ≤ n ∧ n ≤ 1000000000000000000) (hd : 1 ≤ d ∧ d ≤ 1000000000000000000) : small ((n : Rat) / (d : Rat)) := by
 have e : (n : Rat) / (d : Rat) = mkRat n d.toNat := by
   rw [Rat.mkRat_eq_div]
   have h1 : ((d.toNat : Nat) : Int) = d := by omega
   have h2 : ((d.toNat : Nat) : Rat) = (d : Rat) := by rw [← Rat.intCast_natCast, h1]
   rw [h2]
 rw [e]
 unfold small
 rw [Rat.num_mkRat, Rat.den_mkRat, if_neg (by omega), if_neg (by omega)]
 have g0 : 0 < d.toNat.gcd n.natAbs := Nat.gcd_pos_of_pos_left _ (by omega)
 have h1 : (n / (d.toNat.gcd n.natAbs : Nat)).natAbs ≤ n.natAbs := by
   rw [Int.natAbs_ediv_of_dvd, Int.natAbs_natCast]
   · exact Nat.div_le_self _ _
   · rw [← Int.dvd_natAbs, Int.ofNat_dvd]; exact Nat.gcd_dvd_right _ _
 have h2 : d.toNat / d.toNat.gcd n.natAbs ≤ d.toNat := Nat.div_le_self _ _
 generalize n / (d.toNat.gcd n.natAbs : Nat) = x at *
 generalize d.toNat / d.toNat.gcd n.natAbs = y at *
 omega
end
end Go.Pf.Vc
namespace Go.Pf.Vc
open Go Go.Pf
theorem rne {D : Int} (h : 1 ≤ D) : (D : Rat) ≠ 0 := fun e => by have := Rat.intCast_eq_zero_iff.1 e; omega
section
variable {len : Int} {cuts dens : List Int}
def rem (cuts dens : List Int) : Nat → Nat → Int
 | 0, _ => 0
 | r + 1, i => dens.getD i 0 * (cuts.getD (i + 1) 0 - cuts.getD i 0) + rem cuts dens r (i + 1)
theorem totS_rem (cuts dens : List Int) : ∀ (r i : Nat) (s : Int), totS cuts dens r i s = s + rem cuts dens r i
 | 0, i, s => by unfold totS rem; omega
 | r + 1, i, s => by unfold totS rem; rw [totS_rem cuts dens r (i + 1)]; omega
theorem rem_bound (h : VC len cuts dens) : ∀ (r i : Nat), i + r = dens.length → 0 ≤ rem cuts dens r i ∧ rem cuts dens r i ≤ 12 * (len - cuts.getD i 0)
 | 0, i, hi => by
   have := h.l1
   have := h.hi (i := i) (by omega)
   unfold rem; omega
 | r + 1, i, hi => by
   unfold rem
   have l1 := h.l1
   have h2 := h.step (i := i) (by omega)
   have h3 := mul12 (h.den (i := i) (by omega)) (x := cuts.getD (i + 1) 0 - cuts.getD i 0) (by omega)
   have := rem_bound h r (i + 1) (by omega)
   omega
theorem rem_pos (h : VC len cuts dens) : ∀ (r i : Nat), i + r = dens.length → (∃ j, i ≤ j ∧ j < dens.length ∧ 0 < dens.getD j 0) → 0 < rem cuts dens r i
 | 0, i, hi, ⟨j, h1, h2, _⟩ => by omega
 | r + 1, i, hi, ⟨j, h1, h2, h3⟩ => by
   unfold rem
   have l1 := h.l1
   have s := h.step (i := i) (by omega)
   have m := mul12 (h.den (i := i) (by omega)) (x := cuts.getD (i + 1) 0 - cuts.getD i 0) (by omega)
   have b := rem_bound h r (i + 1) (by omega)
   by_cases e : j = i
   · subst e
     have := Int.mul_pos h3 (show 0 < cuts.getD (j + 1) 0 - cuts.getD j 0 by omega)
     omega
   · have := rem_pos h r (i + 1) (by omega) ⟨j, by omega, h2, h3⟩
     omega
theorem totC_pos (h : VC len cuts dens) : 0 < totC cuts dens := by
 unfold totC
 rw [totS_rem]
 obtain ⟨d, hd, h0⟩ := h.2.2.2.2.2.2.2.2.2
 obtain ⟨j, hj, e⟩ := List.mem_iff_getElem.1 hd
 have := rem_pos h dens.length 0 (by omega) ⟨j, by omega, hj, by rw [List.getD_eq_getElem?_getD, List.getElem?_eq_getElem hj]; simpa [e] using h0⟩
 omega
end
end Go.Pf.Vc
namespace Go.Pf.Vc
open Go Go.Pf
structure Qy where
 agent : Int
 kind : Int
 an : Int
 ad : Int
 bn : Int
 bd : Int
 cn : Int
 cd : Int
 deriving DecidableEq
instance : Inhabited Qy := ⟨⟨0, 0, 0, 0, 0, 0, 0, 0⟩⟩
def encQ (q : Qy) : PV := qrow q.agent q.kind q.an q.ad q.bn q.bd q.cn q.cd
def logs (l : List Qy) : List PV := l.map encQ
theorem logs_len (l : List Qy) : (logs l).length = l.length := List.length_map ..
theorem logs_at {l : List Qy} {i : Nat} (h : i < l.length) : List.getD (logs l) i .nils = encQ (l.getD i default) := by
 unfold logs
 rw [List.getD_eq_getElem?_getD, List.getD_eq_getElem?_getD, List.getElem?_map, List.getElem?_eq_getElem h]
 rfl
theorem logs_head (l : List Qy) : headOk 8 (logs l) = true := by cases l <;> rfl
theorem logs_app (l m : List Qy) : logs (l ++ m) = logs l ++ logs m := List.map_append ..
theorem asQ {q : Qy} {P : Prop} : asr (conf (.agg [.i .i64, .i .u8, .i .i64, .i .i64, .i .i64, .i .i64, .i .i64, .i .i64]) (encQ q)) P = P := rfl
theorem qeq (q r : Qy) : ((q.agent == r.agent) && ((q.kind == r.kind) && ((q.an == r.an) && ((q.ad == r.ad) && ((q.bn == r.bn) && ((q.bd == r.bd) && ((q.cn == r.cn) && ((q.cd == r.cd) && true)))))))) = decide (q = r) := by
 cases q; cases r
 rw [Bool.eq_iff_iff]
 simp
theorem list_step {α : Type} [DecidableEq α] (d : α) {a b : List α} {i : Nat} (ha : i < a.length) (hb : i < b.length) : decide (a.drop i = b.drop i) = (decide (a.getD i d = b.getD i d) && decide (a.drop (i + 1) = b.drop (i + 1))) := by
 rw [drop_cons d ha, drop_cons d hb, Bool.eq_iff_iff]
 simp
theorem SameLogs_loop {a b : List Qy} (hab : a.length = b.length) (hl : a.length < 4611686018427387904) (K : Bool → Prop) :
   ∀ (r i n : Nat), i + r = a.length → r < n → L_r04_SameLogs_0_0 (fun yb0 => K yb0) (fun _ _ _ _ => K true) n (logs a) (logs b) i = K (decide (a.drop i = b.drop i))
 | 0, i, n + 1, hi, hn => by
   unfold L_r04_SameLogs_0_0
   rw [logs_len, cbF (by omega), List.drop_of_length_le (by omega), List.drop_of_length_le (by omega)]; rfl
 | r + 1, i, n + 1, hi, hn => by
   unfold L_r04_SameLogs_0_0
   have e1 := wib (n := (i : Int) + 1) (by omega) (by omega)
   rw [logs_len, cbT (by omega), logs_len, Int.toNat_natCast, logs_at (by omega), logs_at (by omega), asT (by omega), asT (by omega), asQ, asT (by omega), asT (by omega), asQ, list_step default (by omega) (by omega), e1, cast1]
   have q2 : ((intOfV (cellAt (encQ (a.getD i default)) 0) == intOfV (cellAt (encQ (b.getD i default)) 0)) && ((intOfV (cellAt (encQ (a.getD i default)) 1) == intOfV (cellAt (encQ (b.getD i default)) 1)) && ((intOfV (cellAt (encQ (a.getD i default)) 2) == intOfV (cellAt (encQ (b.getD i default)) 2)) && ((intOfV (cellAt (encQ (a.getD i default)) 3) == intOfV (cellAt (encQ (b.getD i default)) 3)) && ((intOfV (cellAt (encQ (a.getD i default)) 4) == intOfV (cellAt (encQ (b.getD i default)) 4)) && ((intOfV (cellAt (encQ (a.getD i default)) 5) == intOfV (cellAt (encQ (b.getD i default)) 5)) && ((intOfV (cellAt (encQ (a.getD i default)) 6) == intOfV (cellAt (encQ (b.getD i default)) 6)) && ((intOfV (cellAt (encQ (a.getD i default)) 7) == intOfV (cellAt (encQ (b.getD i default)) 7)) && true)))))))) = decide (a.getD i default = b.getD i default) := qeq (a.getD i default) (b.getD i default)
   have ih := SameLogs_loop hab hl K r (i + 1) n (by omega) (by omega)
   refine (congrArg (fun c => cbr (!c) (K false) (L_r04_SameLogs_0_0 (fun yb0 => K yb0) (fun yl1 yl2 yi3 yb4 => K true) n (logs a) (logs b) ((i + 1 : Nat) : Int))) q2).trans ?_
   cases decide (a.getD i default = b.getD i default) with
   | true => rw [Bool.not_true, cbr_false, Bool.true_and]; exact ih
   | false => rw [Bool.not_false, cbr_true, Bool.false_and]
theorem SameLogs_eq {a b : List Qy} (ha : a.length < 4611686018427387904) (_ : b.length < 4611686018427387904) (K : Bool → Prop) : w_r04_SameLogs (logs a) (logs b) K = K (decide (a = b)) := by
 refine det_r04_SameLogs _ _ _ (fun K k => ?_) K
 unfold w_r04_SameLogs wv_r04_SameLogs
 rw [logs_len, logs_len]
 by_cases h : a.length = b.length
 · rw [cnF (by omega)]
   refine ⟨a.length + 1, ?_⟩
   have := SameLogs_loop h ha K a.length 0 (a.length + 1) (by omega) (by omega)
   rw [show ((0 : Nat) : Int) = 0 from rfl, List.drop_zero, List.drop_zero] at this
   exact this.mpr k
 · rw [cnT (by omega)]
   rw [decide_eq_false (fun e => h (by rw [e]))] at k; exact k
structure Sp where
 a : Int
 b : Int
 c : Int
 d : Int
 deriving DecidableEq
instance : Inhabited Sp := ⟨⟨0, 0, 0, 0⟩⟩
def encS (s : Sp) : PV := .agg [.int .i64 s.a, .int .i64 s.b, .int .i64 s.c, .int .i64 s.d]
def spans (l : List Sp) : List PV := l.map encS
def pieces (l : List (List Sp)) : List PV := l.map fun s => .data (spans s)
theorem spans_len (l : List Sp) : (spans l).length = l.length := List.length_map ..
theorem spans_at {l : List Sp} {i : Nat} (h : i < l.length) : List.getD (spans l) i .nils = encS (l.getD i default) := by
 unfold spans
 rw [List.getD_eq_getElem?_getD, List.getD_eq_getElem?_getD, List.getElem?_map, List.getElem?_eq_getElem h]
 rfl
theorem pieces_len (l : List (List Sp)) : (pieces l).length = l.length := List.length_map ..
theorem pieces_at {l : List (List Sp)} {i : Nat} (h : i < l.length) : List.getD (pieces l) i .nils = .data (spans (l.getD i [])) := by
 unfold pieces
 rw [List.getD_eq_getElem?_getD, List.getD_eq_getElem?_getD, List.getElem?_map, List.getElem?_eq_getElem h]
 rfl
theorem asS {s : Sp} {P : Prop} : asr (conf z4 (encS s)) P = P := rfl
theorem asD {r : List PV} {P : Prop} : asr (conf zD (.data r)) P = P := rfl
theorem cSame_loop {s : List Sp} (hl : s.length < 4611686018427387904) (K : Bool → Prop) :
   ∀ (r i n : Nat), i + r = s.length → r < n → L_r03_Same_0_0 (fun yb0 => (K yb0)) (fun _ _ _ _ => (K true)) n (spans s) (spans s) i = K true
 | 0, i, n + 1, hi, hn => by
   unfold L_r03_Same_0_0
   rw [spans_len, cbF (by omega)]
 | r + 1, i, n + 1, hi, hn => by
   unfold L_r03_Same_0_0
   have e1 := wib (n := (i : Int) + 1) (by omega) (by omega)
   rw [spans_len, cbT (by omega), Int.toNat_natCast, spans_at (by omega), asT (by omega), asT (by omega), asS, asT (by omega), asT (by omega), asS, e1, cast1]
   simp only [beq_self_eq_true, Bool.and_self, Bool.not_true, cbr_false]
   exact cSame_loop hl K r (i + 1) n (by omega) (by omega)
theorem cSame_self {s : List Sp} (hl : s.length < 4611686018427387904) (K : Bool → Prop) : w_r03_Same (spans s) (spans s) K = K true := by
 refine det_r03_Same _ _ _ (fun K k => ?_) K
 unfold w_r03_Same wv_r03_Same
 rw [cnF rfl]
 refine ⟨s.length + 1, ?_⟩
 exact (cSame_loop hl K s.length 0 (s.length + 1) (by omega) (by omega)).mpr k
theorem gSame_loop {l : List (List Sp)} (hf : ∀ i, i < l.length → (l.getD i []).length < 4611686018427387904) (hl : l.length < 4611686018427387904) (K : Bool → Prop) :
   ∀ (r i n : Nat), i + r = l.length → r < n → L_r06_Same_0_0 w_r03_Same (fun yb1 => (K yb1)) (fun _ _ _ _ => (K true)) n (pieces l) (pieces l) i = K true
 | 0, i, n + 1, hi, hn => by
   unfold L_r06_Same_0_0
   rw [pieces_len, cbF (by omega)]
 | r + 1, i, n + 1, hi, hn => by
   unfold L_r06_Same_0_0
   have e1 := wib (n := (i : Int) + 1) (by omega) (by omega)
   rw [pieces_len, cbT (by omega), Int.toNat_natCast, pieces_at (by omega), asT (by omega), asT (by omega), asD, asT (by omega), asT (by omega), asD]
   show w_r03_Same (spans (l.getD i [])) (spans (l.getD i [])) _ = _
   rw [cSame_self (hf i (by omega)), Bool.not_true, cbr_false, e1, cast1]
   exact gSame_loop hf hl K r (i + 1) n (by omega) (by omega)
theorem gSame_self {l : List (List Sp)} (hf : ∀ i, i < l.length → (l.getD i []).length < 4611686018427387904) (hl : l.length < 4611686018427387904) (K : Bool → Prop) : w_r06_Same (pieces l) (pieces l) K = K true := by
 refine det_r06_Same _ _ _ (fun K k => ?_) K
 unfold w_r06_Same wv_r06_Same
 rw [cnF rfl]
 refine ⟨l.length + 1, ?_⟩
 exact (gSame_loop hf hl K l.length 0 (l.length + 1) (by omega) (by omega)).mpr k
end Go.Pf.Vc
namespace Go.Pf.Vc
open Go Go.Pf
def getR (e : Except Int Rat) : Rat := match e with | .ok q => q | .error _ => 0
theorem getR_of {e : Except Int Rat} {q : Rat} (h : e = .ok q) : e = .ok (getR e) ∧ getR e = q := by subst h; exact ⟨rfl, rfl⟩
section
variable {l : List Ck}
theorem cmpQ_ge (x y : Rat) : decide (cmpQ x y ≥ 0) = !decide (x < y) := by
 unfold cmpQ
 by_cases h : x < y
 · simp [h]
 · by_cases h2 : y < x <;> simp [h, h2]
end
end Go.Pf.Vc
namespace Go.Pf.Vc
open Go Go.Pf
section
variable {l : List Ck}
theorem SameLogs_self {a : List Qy} (ha : a.length < 4611686018427387904) (K : Bool → Prop) : w_r04_SameLogs (logs a) (logs a) K = K true := by
 rw [SameLogs_eq ha ha, decide_eq_true rfl]
end
end Go.Pf.Vc
namespace Go.Pf.Vc
open Go Go.Pf
def dsC : DS := .a [.i .i64, .s (.i .i64), .s (.i .i64)]
theorem inK_i64 {n : Int} (h : inK .i64 n) : I64 n := by
 have e1 : IntKind.i64.min = -9223372036854775808 := by decide
 have e2 : IntKind.i64.max = 9223372036854775807 := by decide
 unfold inK at h
 rw [e1, e2] at h
 exact h
theorem F_i {c : List PV} (h : HasF (.i .i64) c) : ∃ n, c = [.int .i64 n] ∧ I64 n := by
 simp only [HasF] at h
 obtain ⟨n, e, k⟩ := h
 exact ⟨n, e, inK_i64 k⟩
theorem ints_of : ∀ (rows : List PV), (∀ x ∈ rows, x.isAgg = (DS.i .i64).isA ∧ HasF (.i .i64) x.cells) → ∃ l : List Int, rows = ints l ∧ ∀ n ∈ l, I64 n
 | [], _ => ⟨[], rfl, by simp⟩
 | x :: r, h => by
   obtain ⟨l, e, hl⟩ := ints_of r (fun y hy => h y (List.mem_cons_of_mem _ hy))
   obtain ⟨h1, h2⟩ := h x (List.mem_cons_self ..)
   obtain ⟨n, e2, hn⟩ := F_i h2
   have ex : x = .int .i64 n := by
     cases x <;> first | (simp only [PV.cells, List.cons.injEq, and_true] at e2; exact e2) | (cases h1)
   refine ⟨n :: l, by rw [ex, e]; rfl, ?_⟩
   intro m hm
   rcases List.mem_cons.1 hm with rfl | hm
   · exact hn
   · exact hl m hm
def Ck.i64 (c : Ck) : Prop := I64 c.len ∧ (∀ n ∈ c.cuts, I64 n) ∧ ∀ n ∈ c.dens, I64 n
theorem F_c {c : List PV} (h : HasF dsC c) : ∃ k : Ck, c = [.int .i64 k.len, .data (ints k.cuts), .data (ints k.dens)] ∧ k.i64 ∧ k.cuts.length ≤ 9223372036854775807 ∧ k.dens.length ≤ 9223372036854775807 := by
 simp only [dsC, HasF, HasL] at h
 obtain ⟨c1, c2, rfl, ⟨n, rfl, hn⟩, c3, c4, rfl, ⟨r1, rfl, l1, h1⟩, c5, c6, rfl, ⟨r2, rfl, l2, h2⟩, rfl⟩ := h
 obtain ⟨a, rfl, ha⟩ := ints_of r1 (fun x hx => ⟨(h1 x hx).1, by simp only [HasF]; exact (h1 x hx).2⟩)
 obtain ⟨b, rfl, hb⟩ := ints_of r2 (fun x hx => ⟨(h2 x hx).1, by simp only [HasF]; exact (h2 x hx).2⟩)
 rw [ints_len] at l1 l2
 exact ⟨⟨n, a, b⟩, rfl, ⟨inK_i64 hn, ha, hb⟩, l1, l2⟩
theorem agg_of {x : PV} {l : List DS} (h : x.isAgg = (DS.a l).isA) : x = .agg x.cells := by
 cases x <;> first | rfl | cases h
theorem cks_of : ∀ (rows : List PV), (∀ x ∈ rows, x.isAgg = dsC.isA ∧ HasF dsC x.cells) → ∃ l : List Ck, rows = cks l ∧ ∀ c ∈ l, c.i64
 | [], _ => ⟨[], rfl, by simp⟩
 | x :: r, h => by
   obtain ⟨l, e, hl⟩ := cks_of r (fun y hy => h y (List.mem_cons_of_mem _ hy))
   obtain ⟨h1, h2⟩ := h x (List.mem_cons_self ..)
   obtain ⟨k, e2, hk, _⟩ := F_c h2
   have ex : x = encC k := by rw [agg_of h1, e2]; rfl
   refine ⟨k :: l, by rw [ex, e]; rfl, ?_⟩
   intro m hm
   rcases List.mem_cons.1 hm with rfl | hm
   · exact hk
   · exact hl m hm
theorem F_cks {c : List PV} (h : HasF (.s dsC) c) : ∃ l : List Ck, c = [.data (cks l)] ∧ l.length ≤ 9223372036854775807 ∧ ∀ k ∈ l, k.i64 := by
 simp only [HasF] at h
 obtain ⟨rows, rfl, hl, hr⟩ := h
 obtain ⟨l, rfl, hi⟩ := cks_of rows hr
 rw [cks_len] at hl
 exact ⟨l, rfl, hl, hi⟩
theorem single_of {x y : PV} (h : x.isAgg = false) (e : x.cells = [y]) : x = y := by
 cases x <;> first | (simp only [PV.cells, List.cons.injEq, and_true] at e; exact e) | cases h
theorem A_cks {az : List PV} (h : HasAs [.s dsC] az) : ∃ (l : List Ck), az = [.data (cks l)] ∧ l.length ≤ 9223372036854775807 ∧ ∀ k ∈ l, k.i64 := by
 simp only [HasAs] at h
 obtain ⟨x, r, rfl, x1, x2, rfl⟩ := h
 obtain ⟨l, e1, hl, hi⟩ := F_cks x2
 rw [single_of x1 e1]
 exact ⟨l, rfl, hl, hi⟩
end Go.Pf.Vc
namespace Go.Pf.Vc
open Go Go.Pf
theorem iSame_loop {l : List Int} (hl : l.length < 4611686018427387904) (K : Bool → Prop) :
   ∀ (r i n : Nat), i + r = l.length → r < n → L_r09_Same_0_0 (fun yb0 => (K yb0)) (fun _ _ _ _ => (K true)) n (ints l) (ints l) i = K true
 | 0, i, n + 1, hi, hn => by
   unfold L_r09_Same_0_0
   rw [ints_len, cbF (by omega)]
 | r + 1, i, n + 1, hi, hn => by
   unfold L_r09_Same_0_0
   have e1 := wib (n := (i : Int) + 1) (by omega) (by omega)
   rw [ints_len, cbT (by omega), Int.toNat_natCast, asT (by omega), asT (by omega), asC (by omega), asT (by omega), asT (by omega), asC (by omega), cnF rfl, e1, cast1]
   exact iSame_loop hl K r (i + 1) n (by omega) (by omega)
theorem iSame_self {l : List Int} (hl : l.length < 4611686018427387904) (K : Bool → Prop) : w_r09_Same (ints l) (ints l) K = K true := by
 refine det_r09_Same _ _ _ (fun K k => ?_) K
 unfold w_r09_Same wv_r09_Same
 rw [cnF rfl]
 refine ⟨l.length + 1, ?_⟩
 exact (iSame_loop hl K l.length 0 (l.length + 1) (by omega) (by omega)).mpr k
end Go.Pf.Vc
namespace Go.Pf.Vc
abbrev RS : Type := Rat × Rat
end Go.Pf.Vc
namespace Go.Pf.Vc
def maxR (a b : Rat) : Rat := if a < b then b else a
end Go.Pf.Vc
namespace Go.Pf.Vc
def minR (a b : Rat) : Rat := if a < b then a else b
theorem maxR_is (a b : Rat) : a ≤ maxR a b ∧ b ≤ maxR a b ∧ (maxR a b = a ∨ maxR a b = b) := by unfold maxR; split <;> grind
theorem minR_is (a b : Rat) : minR a b ≤ a ∧ minR a b ≤ b ∧ (minR a b = a ∨ minR a b = b) := by unfold minR; split <;> grind
end Go.Pf.Vc
namespace Go.Pf.Vc
open Go Go.Pf
theorem cmpQ_neg (q r : Rat) : decide (cmpQ q r < 0) = decide (q < r) := by
 unfold cmpQ
 by_cases h : q < r
 · rw [if_pos h]; simp [h]
 · rw [if_neg h]
   split <;> simp [h]
theorem cmpQ_le (q r : Rat) : decide (cmpQ q r ≤ 0) = !decide (r < q) := by
 unfold cmpQ
 by_cases h : q < r
 · have : ¬ r < q := by grind
   rw [if_pos h]; simp [this]
 · rw [if_neg h]
   by_cases h2 : r < q
   · rw [if_pos h2]; simp [h2]
   · rw [if_neg h2]; simp [h2]
end Go.Pf.Vc
namespace Go.Pf.Vc
open Go Go.Pf
def spOf (r : RS) : Sp := ⟨r.1.num, r.1.den, r.2.num, r.2.den⟩
def rsp (l : List RS) : List PV := spans (l.map spOf)
theorem asTr (P : Prop) : asr (decide True) P = P := by rw [decide_true]; rfl
theorem last_at {α : Type} {acc : List α} {c d : α} {i : Nat} (h : i = acc.length) : (acc ++ [c]).getD i d = c := by
 subst h
 rw [List.getD_eq_getElem?_getD, List.getElem?_append_right (Nat.le_refl _), Nat.sub_self]
 rfl
end Go.Pf.Vc
namespace Go.Pf.Vc
open Go Go.Pf
section
variable (V : Rat → Rat)
def dV (s : RS) : Rat := V s.2 - V s.1
end
end Go.Pf.Vc
namespace Go.Pf.Vc
open Go Go.Pf
section
variable {len : Int} {cuts dens : List Int}
def uC (cuts : List Int) (i : Nat) (x : Rat) : Rat := minR (maxR x (cuts.getD i 0 : Int)) (cuts.getD (i + 1) 0 : Int)
def vu (cuts dens : List Int) (x : Rat) : Nat → Nat → Rat
 | 0, _ => 0
 | r + 1, i => (dens.getD i 0 : Int) * uC cuts i x + vu cuts dens x r (i + 1)
theorem vu_low (h : VC len cuts dens) : ∀ (r i : Nat) {x y : Rat}, i + r = dens.length → x ≤ (cuts.getD i 0 : Int) → y ≤ (cuts.getD i 0 : Int) → vu cuts dens x r i = vu cuts dens y r i
 | 0, _, _, _, _, _, _ => rfl
 | r + 1, i, x, y, hi, hx, hy => by
   have l1 := h.l1
   have hst : ((cuts.getD i 0 : Int) : Rat) < ((cuts.getD (i + 1) 0 : Int) : Rat) := Rat.intCast_lt_intCast.2 (h.step (i := i) (by omega))
   have ih := vu_low h r (i + 1) (x := x) (y := y) (by omega) (by grind) (by grind)
   unfold vu
   rw [ih]
   have e : uC cuts i x = uC cuts i y := by
     unfold uC
     have a1 := maxR_is x (cuts.getD i 0 : Int)
     have a2 := maxR_is y (cuts.getD i 0 : Int)
     have e1 : maxR x (cuts.getD i 0 : Int) = (cuts.getD i 0 : Int) := by grind
     have e2 : maxR y (cuts.getD i 0 : Int) = (cuts.getD i 0 : Int) := by grind
     rw [e1, e2]
   rw [e]
theorem fit_inv {α : Type} {q : Rat} {k : Rat → Except Int α} {v : α} (h : fit q k = .ok v) : k q = .ok v := by
 unfold fit at h
 split at h
 · exact h
 · cases h
theorem valS_vu (h : VC len cuts dens) {b : Rat} : ∀ (r i : Nat) (p sum v : Rat), i + r = dens.length → p ≤ b → (p = b ∨ ((cuts.getD i 0 : Int) : Rat) ≤ p) → valS cuts dens b r i p sum = .ok v → v = sum + (vu cuts dens b r i - vu cuts dens p r i)
 | 0, i, p, sum, v, hi, hp, hc, hv => by
   unfold valS at hv
   cases hv
   unfold vu
   grind
 | r + 1, i, p, sum, v, hi, hp, hc, hv => by
   have l1 := h.l1
   have hst : ((cuts.getD i 0 : Int) : Rat) < ((cuts.getD (i + 1) 0 : Int) : Rat) := Rat.intCast_lt_intCast.2 (h.step (i := i) (by omega))
   unfold valS at hv
   dsimp only at hv
   have hen : ∃ en : Rat, (if b < ((cuts.getD (i + 1) 0 : Int) : Rat) then b else ((cuts.getD (i + 1) 0 : Int) : Rat)) = en ∧ en ≤ b ∧ en ≤ ((cuts.getD (i + 1) 0 : Int) : Rat) ∧ (en = b ∨ en = ((cuts.getD (i + 1) 0 : Int) : Rat)) := by
     refine ⟨_, rfl, ?_⟩
     split <;> grind
   obtain ⟨en, e0, he1, he2, he3⟩ := hen
   rw [e0] at hv
   have low := vu_low h r (i + 1) (x := en) (y := p) (by omega)
   have m1 := maxR_is b (cuts.getD i 0 : Int)
   have m2 := maxR_is p (cuts.getD i 0 : Int)
   have n1 := minR_is (maxR b (cuts.getD i 0 : Int)) (cuts.getD (i + 1) 0 : Int)
   have n2 := minR_is (maxR p (cuts.getD i 0 : Int)) (cuts.getD (i + 1) 0 : Int)
   unfold vu uC
   generalize ((cuts.getD i 0 : Int) : Rat) = c0 at *
   generalize hc1 : ((cuts.getD (i + 1) 0 : Int) : Rat) = c1 at *
   by_cases hlt : p < en
   · have hb : minR (maxR b c0) c1 = en := by grind
     have hq : minR (maxR p c0) c1 = p := by grind
     by_cases hd : dens.getD i 0 = 0
     · rw [if_pos (.inl hd), if_pos hlt] at hv
       have ih := valS_vu h r (i + 1) en sum v (by omega) he1 (by rw [hc1]; grind) hv
       rw [ih, hd, low (by grind) (by grind)]
       grind
     · rw [if_neg (by intro k; rcases k with k | k; exact hd k; exact k hlt)] at hv
       have hv := fit_inv (fit_inv (fit_inv hv))
       have ih := valS_vu h r (i + 1) en _ v (by omega) he1 (by rw [hc1]; grind) hv
       rw [ih, low (by grind) (by grind), hb, hq]
       grind
   · rw [if_pos (.inr hlt), if_neg hlt] at hv
     have ih := valS_vu h r (i + 1) p sum v (by omega) hp (by rw [hc1]; grind) hv
     have : minR (maxR b c0) c1 = minR (maxR p c0) c1 := by grind
     rw [ih, this]
     grind
end
end Go.Pf.Vc
namespace Go.Pf.Vc
open Go Go.Pf
section
variable {len : Int} {cuts dens : List Int}
def vX (cuts dens : List Int) (x : Rat) : Rat := vu cuts dens x dens.length 0
theorem valC_vX (h : VC len cuts dens) {a b v : Rat} (h0 : 0 ≤ a) (hab : a ≤ b) (hv : valC cuts dens a b = .ok v) : v = vX cuts dens b - vX cuts dens a := by
 have c0 : cuts.getD 0 0 = 0 := h.2.2.2.2.2.1
 have := valS_vu h dens.length 0 a 0 v (by omega) hab (.inr (by rw [c0]; exact h0)) hv
 unfold vX
 rw [this]; grind
theorem cmpQ_gt (q r : Rat) : decide (cmpQ q r > 0) = decide (r < q) := by
 rw [← Bool.not_eq_not, ← cmpQ_le, Bool.eq_iff_iff]
 simp only [decide_eq_true_eq]
 omega
end
end Go.Pf.Vc
namespace Go.Pf.Vc
open Go Go.Pf
section
variable {len : Int} {cuts dens : List Int}
theorem uC_mono (h : VC len cuts dens) {i : Nat} (hi : i + 1 < cuts.length) {x y : Rat} (hxy : x ≤ y) : uC cuts i x ≤ uC cuts i y := by
 have hst : ((cuts.getD i 0 : Int) : Rat) < ((cuts.getD (i + 1) 0 : Int) : Rat) := Rat.intCast_lt_intCast.2 (h.step (i := i) hi)
 have m1 := maxR_is x (cuts.getD i 0 : Int)
 have m2 := maxR_is y (cuts.getD i 0 : Int)
 have n1 := minR_is (maxR x (cuts.getD i 0 : Int)) (cuts.getD (i + 1) 0 : Int)
 have n2 := minR_is (maxR y (cuts.getD i 0 : Int)) (cuts.getD (i + 1) 0 : Int)
 unfold uC
 grind
theorem den_nn (h : VC len cuts dens) {i : Nat} (hi : i < dens.length) : (0 : Rat) ≤ ((dens.getD i 0 : Int) : Rat) := Rat.intCast_nonneg.2 (h.den hi).1
theorem vu_mono (h : VC len cuts dens) {x y : Rat} (hxy : x ≤ y) : ∀ (r i : Nat), i + r = dens.length → vu cuts dens x r i ≤ vu cuts dens y r i
 | 0, _, _ => Rat.le_refl
 | r + 1, i, hi => by
   have l1 := h.l1
   have h1 := uC_mono h (i := i) (by omega) hxy
   have h2 := vu_mono h hxy r (i + 1) (by omega)
   have h3 := Rat.mul_le_mul_of_nonneg_left h1 (den_nn h (i := i) (by omega))
   unfold vu
   grind
theorem vX_mono (h : VC len cuts dens) {x y : Rat} (hxy : x ≤ y) : vX cuts dens x ≤ vX cuts dens y := vu_mono h hxy dens.length 0 (by omega)
theorem mrkS_vu (h : VC len cuts dens) : ∀ (r i : Nat) (p v q : Rat), i + r = dens.length → 0 < v → ((cuts.getD i 0 : Int) : Rat) ≤ p → mrkS cuts dens r i p v = .ok q →
   vu cuts dens q r i - vu cuts dens p r i = v ∧ p < q ∧ q ≤ ((cuts.getD dens.length 0 : Int) : Rat) ∧ ∀ x, x < q → vu cuts dens x r i < vu cuts dens q r i
 | 0, _, _, _, _, _, _, _, e => by cases e
 | r + 1, i, p, v, q, hi, hv, hp, e => by
   have l1 := h.l1
   have hst : ((cuts.getD i 0 : Int) : Rat) < ((cuts.getD (i + 1) 0 : Int) : Rat) := Rat.intCast_lt_intCast.2 (h.step (i := i) (by omega))
   have hd := h.den (i := i) (by omega)
   have hd0 := den_nn h (i := i) (by omega)
   have low := fun {x y : Rat} => vu_low h r (i + 1) (x := x) (y := y) (by omega)
   have hmon := fun {x : Rat} (hx : x < q) => uC_mono h (i := i) (by omega) (Rat.le_of_lt hx)
   have hmon2 := fun {x : Rat} (hx : x < q) => vu_mono h (Rat.le_of_lt hx) r (i + 1) (by omega)
   have m1 := maxR_is p (cuts.getD i 0 : Int)
   have m2 := maxR_is q (cuts.getD i 0 : Int)
   have n1 := minR_is (maxR p (cuts.getD i 0 : Int)) (cuts.getD (i + 1) 0 : Int)
   have n2 := minR_is (maxR q (cuts.getD i 0 : Int)) (cuts.getD (i + 1) 0 : Int)
   unfold mrkS at e
   by_cases c1 : p < ((cuts.getD (i + 1) 0 : Int) : Rat)
   case neg =>
     rw [if_pos c1] at e
     obtain ⟨a1, a2, a3, a4⟩ := mrkS_vu h r (i + 1) p v q (by omega) hv (Rat.not_lt.1 c1) e
     have eq : uC cuts i q = uC cuts i p := by unfold uC; grind
     refine ⟨by unfold vu; rw [eq]; grind, a2, a3, fun x hx => ?_⟩
     have b1 := a4 x hx
     have b2 := Rat.mul_le_mul_of_nonneg_left (hmon hx) hd0
     unfold vu
     grind
   rw [if_neg (fun k => k c1)] at e
   by_cases c2 : dens.getD i 0 = 0
   · rw [if_pos c2] at e
     obtain ⟨a1, a2, a3, a4⟩ := mrkS_vu h r (i + 1) _ v q (by omega) hv Rat.le_refl e
     have e2 := low (x := p) (y := ((cuts.getD (i + 1) 0 : Int) : Rat)) (Rat.le_of_lt c1) Rat.le_refl
     refine ⟨by unfold vu; rw [e2, c2]; grind, by grind, a3, fun x hx => ?_⟩
     have b1 := a4 x hx
     have b2 := Rat.mul_le_mul_of_nonneg_left (hmon hx) hd0
     unfold vu
     grind
   rw [if_neg c2] at e
   have e := fit_inv (fit_inv e)
   have dpos : (0 : Rat) < ((dens.getD i 0 : Int) : Rat) := Rat.intCast_pos.2 (by omega)
   have up : uC cuts i p = p := by unfold uC; grind
   by_cases c3 : (((cuts.getD (i + 1) 0 : Int) : Rat) - p) * ((dens.getD i 0 : Int) : Rat) < v
   · rw [if_pos c3] at e
     have e := fit_inv e
     obtain ⟨a1, a2, a3, a4⟩ := mrkS_vu h r (i + 1) _ _ q (by omega) (by grind) Rat.le_refl e
     have e2 := low (x := p) (y := ((cuts.getD (i + 1) 0 : Int) : Rat)) (Rat.le_of_lt c1) Rat.le_refl
     have uq : uC cuts i q = ((cuts.getD (i + 1) 0 : Int) : Rat) := by unfold uC; grind
     refine ⟨by unfold vu; rw [e2, up, uq]; grind, by grind, a3, fun x hx => ?_⟩
     have b1 := a4 x hx
     have b2 := Rat.mul_le_mul_of_nonneg_left (hmon hx) hd0
     unfold vu
     grind
   · rw [if_neg c3] at e
     have e := fit_inv (fit_inv e)
     cases e
     generalize hs : v / ((dens.getD i 0 : Int) : Rat) = s at *
     have es : s * ((dens.getD i 0 : Int) : Rat) = v := by rw [← hs]; exact Rat.div_mul_cancel (by grind)
     have s0 : 0 < s := by
       refine Rat.not_le.1 fun k => ?_
       have := Rat.mul_le_mul_of_nonneg_right k hd0
       grind
     have s1 : p + s ≤ ((cuts.getD (i + 1) 0 : Int) : Rat) := by
       refine Rat.not_lt.1 fun k => ?_
       have : (((cuts.getD (i + 1) 0 : Int) : Rat) - p) < s := by grind
       have := Rat.mul_lt_mul_of_pos_right this dpos
       grind
     have uq : uC cuts i (p + s) = p + s := by unfold uC; grind
     have e2 := low (x := p + s) (y := p) s1 (Rat.le_of_lt c1)
     have hlast : cuts.getD (i + 1) 0 ≤ cuts.getD dens.length 0 := h.mono (by omega) (by omega)
     have hlast : ((cuts.getD (i + 1) 0 : Int) : Rat) ≤ ((cuts.getD dens.length 0 : Int) : Rat) := Rat.intCast_le_intCast.2 hlast
     refine ⟨by unfold vu; rw [e2, up, uq]; grind, by grind, by grind, fun x hx => ?_⟩
     have b1 := hmon2 hx
     have ux : uC cuts i x < p + s := by
       have k1 := maxR_is x (cuts.getD i 0 : Int)
       have k2 := minR_is (maxR x (cuts.getD i 0 : Int)) (cuts.getD (i + 1) 0 : Int)
       unfold uC
       grind
     have b2 := Rat.mul_lt_mul_of_pos_left ux dpos
     unfold vu
     rw [uq]
     grind
theorem VC.last (h : VC len cuts dens) : cuts.getD dens.length 0 = len := by
 have l1 := h.l1
 have := h.2.2.2.2.2.2.1
 rw [show dens.length = cuts.length - 1 by omega]
 exact this
theorem mrkC_vX (h : VC len cuts dens) {a v q : Rat} (h0 : 0 ≤ a) (h1 : a ≤ (len : Rat)) (hv : 0 ≤ v) (e : mrkC cuts dens a v = .ok q) :
   vX cuts dens q = vX cuts dens a + v ∧ a ≤ q ∧ q ≤ (len : Rat) ∧ (v = 0 → a = q) ∧ (v ≠ 0 → ∀ x, x < q → vX cuts dens x < vX cuts dens q) := by
 unfold mrkC at e
 by_cases c : v = 0
 · rw [if_pos c] at e
   cases e
   rw [c]
   exact ⟨by grind, Rat.le_refl, h1, fun _ => rfl, fun k => absurd rfl k⟩
 · rw [if_neg c] at e
   have c0 : cuts.getD 0 0 = 0 := h.2.2.2.2.2.1
   obtain ⟨a1, a2, a3, a4⟩ := mrkS_vu h dens.length 0 a v q (by omega) (by grind) (by rw [c0]; exact h0) e
   rw [h.last] at a3
   exact ⟨by unfold vX; grind, Rat.le_of_lt a2, a3, fun k => absurd k c, fun _ => a4⟩
end
end Go.Pf.Vc
namespace Go.Pf.Vc
open Go Go.Pf
def In (D : Int) (q : Rat) : Prop := ∃ n : Int, q = (n : Rat) / (D : Rat)
theorem In.int {D : Int} (h : 1 ≤ D) (c : Int) : In D (c : Rat) := ⟨c * D, by rw [Rat.intCast_mul, Rat.mul_div_cancel (rne h)]⟩
theorem In.add {D : Int} {q r : Rat} (h : In D q) (k : In D r) : In D (q + r) := by
 obtain ⟨n, rfl⟩ := h
 obtain ⟨m, rfl⟩ := k
 exact ⟨n + m, by rw [Rat.intCast_add]; grind⟩
theorem In.sub {D : Int} {q r : Rat} (h : In D q) (k : In D r) : In D (q - r) := by
 obtain ⟨n, rfl⟩ := h
 obtain ⟨m, rfl⟩ := k
 exact ⟨n - m, by rw [Rat.intCast_sub]; grind⟩
theorem In.mulI {D : Int} {q : Rat} (h : In D q) (d : Int) : In D (q * (d : Rat)) := by
 obtain ⟨n, rfl⟩ := h
 exact ⟨n * d, by rw [Rat.intCast_mul]; grind⟩
theorem In.up {D d : Int} {q : Rat} (hD : 1 ≤ D) (hd : 1 ≤ d) (h : In D q) : In (d * D) q := by
 obtain ⟨n, rfl⟩ := h
 have h1 := rne hD
 have h2 := rne hd
 refine ⟨d * n, ?_⟩
 rw [Rat.intCast_mul, Rat.intCast_mul]
 grind
theorem In.div {D d : Int} {q : Rat} (hD : 1 ≤ D) (hd : 1 ≤ d) (h : In D q) : In (d * D) (q / (d : Rat)) := by
 obtain ⟨n, rfl⟩ := h
 have h1 := rne hD
 have h2 := rne hd
 refine ⟨n, ?_⟩
 rw [Rat.intCast_mul]
 grind
theorem In.small {D M : Int} {q : Rat} (h : In D q) (hD : 1 ≤ D ∧ D ≤ 1000000000000000000) (hM : M * D ≤ 1000000000000000000) (h0 : -(M : Rat) ≤ q) (h1 : q ≤ (M : Rat)) : small q := by
 obtain ⟨n, rfl⟩ := h
 have hp : (0 : Rat) < (D : Rat) := Rat.intCast_pos.2 (by omega)
 have e : (n : Rat) / (D : Rat) * (D : Rat) = (n : Rat) := Rat.div_mul_cancel (rne hD.1)
 have a := Rat.mul_le_mul_of_nonneg_right h0 (Rat.le_of_lt hp)
 have b := Rat.mul_le_mul_of_nonneg_right h1 (Rat.le_of_lt hp)
 rw [e] at a b
 have a' : ((-(M * D) : Int) : Rat) ≤ (n : Rat) := by rw [Rat.intCast_neg, Rat.intCast_mul]; grind
 have b' : (n : Rat) ≤ ((M * D : Int) : Rat) := by rw [Rat.intCast_mul]; exact b
 have a2 := Rat.intCast_le_intCast.1 a'
 have b2 := Rat.intCast_le_intCast.1 b'
 exact small_div (d := D) ⟨by omega, by omega⟩ ⟨by omega, by omega⟩
section
variable {len : Int} {cuts dens : List Int}
theorem cuts_le (h : VC len cuts dens) {i j : Nat} (hij : i ≤ j) (hj : j ≤ dens.length) : ((cuts.getD i 0 : Int) : Rat) ≤ ((cuts.getD j 0 : Int) : Rat) := Rat.intCast_le_intCast.2 (h.mono hij (by have := h.l1; omega))
theorem uC_In {D : Int} (hD : 1 ≤ D) {x : Rat} (hx : In D x) (i : Nat) : In D (uC cuts i x) := by
 have n1 := minR_is (maxR x (cuts.getD i 0 : Int)) (cuts.getD (i + 1) 0 : Int)
 have m1 := maxR_is x (cuts.getD i 0 : Int)
 unfold uC
 rcases n1.2.2 with e | e
 · rw [e]
   rcases m1.2.2 with e2 | e2
   · rw [e2]; exact hx
   · rw [e2]; exact In.int hD _
 · rw [e]; exact In.int hD _
theorem vu_In {D : Int} (hD : 1 ≤ D) {x : Rat} (hx : In D x) : ∀ (r i : Nat), In D (vu cuts dens x r i)
 | 0, _ => In.int hD 0
 | r + 1, i => by
   unfold vu
   rw [Rat.mul_comm]
   exact ((uC_In hD hx i).mulI _).add (vu_In hD hx r (i + 1))
theorem vX_In {D : Int} (hD : 1 ≤ D) {x : Rat} (hx : In D x) : In D (vX cuts dens x) := vu_In hD hx _ _
theorem vu_rem (h : VC len cuts dens) : ∀ (r i : Nat), i + r = dens.length → vu cuts dens (len : Rat) r i - vu cuts dens ((cuts.getD i 0 : Int) : Rat) r i = ((rem cuts dens r i : Int) : Rat)
 | 0, _, _ => by unfold vu rem; show (0 : Rat) - 0 = 0; grind
 | r + 1, i, hi => by
   have ih := vu_rem h r (i + 1) (by omega)
   have hst : ((cuts.getD i 0 : Int) : Rat) ≤ ((cuts.getD (i + 1) 0 : Int) : Rat) := cuts_le h (Nat.le_succ i) (by omega)
   have hl : ((cuts.getD (i + 1) 0 : Int) : Rat) ≤ (len : Rat) := by rw [← h.last]; exact cuts_le h (by omega) (Nat.le_refl _)
   have low := vu_low h r (i + 1) (x := ((cuts.getD i 0 : Int) : Rat)) (y := ((cuts.getD (i + 1) 0 : Int) : Rat)) (by omega) hst Rat.le_refl
   have m1 := maxR_is (len : Rat) (cuts.getD i 0 : Int)
   have n1 := minR_is (maxR (len : Rat) (cuts.getD i 0 : Int)) (cuts.getD (i + 1) 0 : Int)
   have m2 := maxR_is ((cuts.getD i 0 : Int) : Rat) (cuts.getD i 0 : Int)
   have n2 := minR_is (maxR ((cuts.getD i 0 : Int) : Rat) (cuts.getD i 0 : Int)) (cuts.getD (i + 1) 0 : Int)
   have e1 : uC cuts i (len : Rat) = ((cuts.getD (i + 1) 0 : Int) : Rat) := by unfold uC; grind
   have e2 : uC cuts i ((cuts.getD i 0 : Int) : Rat) = ((cuts.getD i 0 : Int) : Rat) := by unfold uC; grind
   unfold vu rem
   rw [e1, e2, low, Rat.intCast_add, Rat.intCast_mul, Rat.intCast_sub, ← ih]
   grind
theorem vX_tot (h : VC len cuts dens) : vX cuts dens (len : Rat) - vX cuts dens 0 = ((totC cuts dens : Int) : Rat) := by
 have c0 : cuts.getD 0 0 = 0 := h.2.2.2.2.2.1
 have := vu_rem h dens.length 0 (by omega)
 rw [c0] at this
 unfold totC
 rw [totS_rem, show (0 : Int) + rem cuts dens dens.length 0 = rem cuts dens dens.length 0 by omega]
 exact this
end
end Go.Pf.Vc
namespace Go.Pf.Vc
open Go Go.Pf
section
variable {len : Int} {cuts dens : List Int}
theorem len_rat (h : VC len cuts dens) : (1 : Rat) ≤ (len : Rat) ∧ (len : Rat) ≤ 1000 := by
 have := h.len0
 exact ⟨Rat.intCast_le_intCast.2 this.1, Rat.intCast_le_intCast.2 this.2⟩
theorem den_rat (h : VC len cuts dens) {i : Nat} (hi : i < dens.length) : (0 : Rat) ≤ ((dens.getD i 0 : Int) : Rat) ∧ ((dens.getD i 0 : Int) : Rat) ≤ 12 := by
 have := h.den hi
 exact ⟨Rat.intCast_le_intCast.2 this.1, Rat.intCast_le_intCast.2 this.2⟩
theorem mul_den {x d : Rat} (h0 : 0 ≤ x) (hd : 0 ≤ d ∧ d ≤ 12) : 0 ≤ x * d ∧ x * d ≤ 12 * x := by
 have a := Rat.mul_nonneg h0 hd.1
 have b := Rat.mul_le_mul_of_nonneg_left hd.2 h0
 exact ⟨a, by grind⟩
theorem valS_good (h : VC len cuts dens) {D : Int} (hD : 1 ≤ D ∧ D ≤ 50000000000000) {b : Rat} (hb : In D b) (b1 : b ≤ (len : Rat)) :
   ∀ (r i : Nat) (p sum : Rat), i + r = dens.length → In D p → In D sum → 0 ≤ p → p ≤ (len : Rat) → 0 ≤ sum → sum ≤ 12 * p → ∃ v, valS cuts dens b r i p sum = .ok v
 | 0, i, p, sum, _, _, _, _, _, _, _ => ⟨sum, rfl⟩
 | r + 1, i, p, sum, hi, hp, hs, p0, p1, s0, s1 => by
   have l1 := h.l1
   have hl := len_rat h
   have hd := den_rat h (i := i) (by omega)
   have hc1 : ((cuts.getD (i + 1) 0 : Int) : Rat) ≤ (len : Rat) := by rw [← h.last]; exact cuts_le h (by omega) (Nat.le_refl _)
   unfold valS
   have hen : ∃ en : Rat, (if b < ((cuts.getD (i + 1) 0 : Int) : Rat) then b else ((cuts.getD (i + 1) 0 : Int) : Rat)) = en ∧ In D en ∧ en ≤ (len : Rat) := by
     refine ⟨_, rfl, ?_, ?_⟩
     · split
       · exact hb
       · exact In.int hD.1 _
     · split <;> grind
   obtain ⟨en, e0, e1, e2⟩ := hen
   rw [e0]
   dsimp only
   split
   · refine valS_good h hD hb b1 r (i + 1) _ sum (by omega) ?_ hs ?_ ?_ s0 ?_
     · split
       · exact e1
       · exact hp
     · split <;> grind
     · split <;> grind
     · split <;> grind
   · rename_i hn
     have hlt : p < en := by
       refine Classical.byContradiction fun k => hn (.inr k)
     have m := mul_den (x := en - p) (by grind) hd
     have i1 := e1.sub hp
     have i2 := i1.mulI (dens.getD i 0)
     have i3 := hs.add i2
     rw [fit_ok (i1.small (M := 1000) ⟨by omega, by omega⟩ (by omega) (by show -(1000 : Rat) ≤ _; grind) (by show _ ≤ (1000 : Rat); grind)),
       fit_ok (i2.small (M := 12000) ⟨by omega, by omega⟩ (by omega) (by show -(12000 : Rat) ≤ _; grind) (by show _ ≤ (12000 : Rat); grind)),
       fit_ok (i3.small (M := 12000) ⟨by omega, by omega⟩ (by omega) (by show -(12000 : Rat) ≤ _; grind) (by show _ ≤ (12000 : Rat); grind))]
     exact valS_good h hD hb b1 r (i + 1) en _ (by omega) e1 i3 (by grind) e2 (by grind) (by grind)
theorem valC_good (h : VC len cuts dens) {D : Int} (hD : 1 ≤ D ∧ D ≤ 50000000000000) {a b : Rat} (ha : In D a) (hb : In D b) (a0 : 0 ≤ a) (hab : a ≤ b) (b1 : b ≤ (len : Rat)) : valC cuts dens a b = .ok (vX cuts dens b - vX cuts dens a) := by
 obtain ⟨v, e⟩ := valS_good h hD hb b1 dens.length 0 a 0 (by omega) ha (In.int hD.1 0) a0 (by grind) (by grind) (by grind)
 have e : valC cuts dens a b = .ok v := e
 rw [e, valC_vX h a0 hab e]
end
end Go.Pf.Vc
namespace Go.Pf.Vc
open Go Go.Pf
def rspL (A : List (List RS)) : List PV := A.map fun a => .data (rsp a)
theorem rspL_len (A : List (List RS)) : (rspL A).length = A.length := List.length_map ..
theorem rspL_at {A : List (List RS)} {i : Nat} (h : i < A.length) : List.getD (rspL A) i .nils = .data (rsp (A.getD i [])) := by
 unfold rspL
 rw [List.getD_eq_getElem?_getD, List.getD_eq_getElem?_getD, List.getElem?_map, List.getElem?_eq_getElem h]
 rfl
end Go.Pf.Vc
namespace Go.Pf.Vc
open Go Go.Pf
section
variable {len : Int} {cuts dens : List Int}
theorem dV_bound (h : VC len cuts dens) {s : RS} (hv : s.1 < s.2) (hw : 0 ≤ s.1 ∧ s.2 ≤ (len : Rat)) : 0 ≤ dV (vX cuts dens) s ∧ dV (vX cuts dens) s ≤ 12000 := by
 have a := vX_mono h hw.1
 have b := vX_mono h hw.2
 have c := vX_mono h (Rat.le_of_lt hv)
 have t := vX_tot h
 have tb := Rat.intCast_le_intCast.2 (totC_bound h).2
 have tb : ((totC cuts dens : Int) : Rat) ≤ 12000 := tb
 show 0 ≤ vX cuts dens s.2 - vX cuts dens s.1 ∧ vX cuts dens s.2 - vX cuts dens s.1 ≤ 12000
 grind
end
end Go.Pf.Vc
namespace Go.Pf.Vc
open Go Go.Pf
def QR (cs : List Ck) (q : Qy) : Prop :=
 (0 ≤ q.agent ∧ q.agent < cs.length) ∧ (I64 q.an ∧ I64 q.ad ∧ I64 q.bn ∧ I64 q.bd) ∧
   ∃ p : Rat, (q.cn = p.num ∧ q.cd = p.den) ∧
     ((q.kind = 2 ∧ mrkR (cs.getD q.agent.toNat default).len (cs.getD q.agent.toNat default).cuts (cs.getD q.agent.toNat default).dens q.an q.ad q.bn q.bd = .ok p) ∨
      (q.kind = 1 ∧ valR (cs.getD q.agent.toNat default).len (cs.getD q.agent.toNat default).cuts (cs.getD q.agent.toNat default).dens q.an q.ad q.bn q.bd = .ok p))
end Go.Pf.Vc
namespace Go.Pf.Vc
open Go Go.Pf
section
variable {len : Int} {cuts dens : List Int}
theorem mrkS_gen (h : VC len cuts dens) : ∀ (r i : Nat) (p v : Rat), i + r = dens.length → ((cuts.getD i 0 : Int) : Rat) ≤ p → p ≤ (len : Rat) → 0 < v → v ≤ vu cuts dens (len : Rat) r i - vu cuts dens p r i →
   ∀ D, 1 ≤ D → D ≤ 1000000000000 → In D p → In D v → v ≤ 12000 → ∃ q d, mrkS cuts dens r i p v = .ok q ∧ (1 ≤ d ∧ d ≤ 12) ∧ In (d * D) q
 | 0, i, p, v, hi, _, _, v0, v1 => by
   unfold vu at v1
   grind
 | r + 1, i, p, v, hi, hp, p1, v0, v1 => by
   intro D D1 D2 hpD hvD hv
   have l1 := h.l1
   have hl := len_rat h
   have hd := den_rat h (i := i) (by omega)
   have hd2 := h.den (i := i) (by omega)
   have hc0 : (0 : Rat) ≤ ((cuts.getD i 0 : Int) : Rat) := Rat.intCast_nonneg.2 (h.lo (by omega))
   have hst : ((cuts.getD i 0 : Int) : Rat) < ((cuts.getD (i + 1) 0 : Int) : Rat) := Rat.intCast_lt_intCast.2 (h.step (i := i) (by omega))
   have hc1 : ((cuts.getD (i + 1) 0 : Int) : Rat) ≤ (len : Rat) := by rw [← h.last]; exact cuts_le h (by omega) (Nat.le_refl _)
   have low := vu_low h r (i + 1) (x := p) (y := ((cuts.getD (i + 1) 0 : Int) : Rat)) (by omega)
   have m1 := maxR_is p (cuts.getD i 0 : Int)
   have m2 := maxR_is (len : Rat) (cuts.getD i 0 : Int)
   have n1 := minR_is (maxR p (cuts.getD i 0 : Int)) (cuts.getD (i + 1) 0 : Int)
   have n2 := minR_is (maxR (len : Rat) (cuts.getD i 0 : Int)) (cuts.getD (i + 1) 0 : Int)
   have el : uC cuts i (len : Rat) = ((cuts.getD (i + 1) 0 : Int) : Rat) := by unfold uC; grind
   unfold vu at v1
   rw [el] at v1
   unfold mrkS
   by_cases c1 : p < ((cuts.getD (i + 1) 0 : Int) : Rat)
   case neg =>
     rw [if_pos c1]
     have ep : uC cuts i p = ((cuts.getD (i + 1) 0 : Int) : Rat) := by unfold uC; grind
     rw [ep] at v1
     exact mrkS_gen h r (i + 1) p v (by omega) (Rat.not_lt.1 c1) p1 v0 (by grind) D D1 D2 hpD hvD hv
   rw [if_neg (fun k => k c1)]
   have ep : uC cuts i p = p := by unfold uC; grind
   rw [ep, low (Rat.le_of_lt c1) Rat.le_refl] at v1
   by_cases cz : dens.getD i 0 = 0
   · rw [if_pos cz]
     rw [cz] at v1
     have e0 : ((0 : Int) : Rat) = 0 := rfl
     exact mrkS_gen h r (i + 1) ((cuts.getD (i + 1) 0 : Int) : Rat) v (by omega) Rat.le_refl hc1 v0 (by grind) D D1 D2 (In.int D1 _) hvD hv
   rw [if_neg cz]
   have hd1 : 0 < dens.getD i 0 := by omega
   have dpos : (0 : Rat) < ((dens.getD i 0 : Int) : Rat) := Rat.intCast_pos.2 hd1
   have m := mul_den (x := ((cuts.getD (i + 1) 0 : Int) : Rat) - p) (by grind) hd
   by_cases c3 : (((cuts.getD (i + 1) 0 : Int) : Rat) - p) * ((dens.getD i 0 : Int) : Rat) < v
   · have i1 := (In.int D1 (cuts.getD (i + 1) 0)).sub hpD
     have i2 := i1.mulI (dens.getD i 0)
     have i3 := hvD.sub i2
     rw [fit_ok (i1.small (M := 1000) ⟨by omega, by omega⟩ (by omega) (by show -(1000 : Rat) ≤ _; grind) (by show _ ≤ (1000 : Rat); grind)),
       fit_ok (i2.small (M := 12000) ⟨by omega, by omega⟩ (by omega) (by show -(12000 : Rat) ≤ _; grind) (by show _ ≤ (12000 : Rat); grind)), if_pos c3,
       fit_ok (i3.small (M := 12000) ⟨by omega, by omega⟩ (by omega) (by show -(12000 : Rat) ≤ _; grind) (by show _ ≤ (12000 : Rat); grind))]
     exact mrkS_gen h r (i + 1) ((cuts.getD (i + 1) 0 : Int) : Rat) (v - (((cuts.getD (i + 1) 0 : Int) : Rat) - p) * ((dens.getD i 0 : Int) : Rat)) (by omega) Rat.le_refl hc1 (by grind) (by grind) D D1 D2 (In.int D1 _) i3 (by grind)
   · have i1 := (In.int D1 (cuts.getD (i + 1) 0)).sub hpD
     have i2 := i1.mulI (dens.getD i 0)
     have i3 := hvD.div D1 (d := dens.getD i 0) (by omega)
     have i4 := (hpD.up D1 (d := dens.getD i 0) (by omega)).add i3
     have hDD : dens.getD i 0 * D ≤ 12 * D := Int.mul_le_mul_of_nonneg_right hd2.2 (by omega)
     have hDD1 : 1 * 1 ≤ dens.getD i 0 * D := Int.mul_le_mul (by omega) D1 (by omega) (by omega)
     generalize hs : v / ((dens.getD i 0 : Int) : Rat) = s at *
     have es : s * ((dens.getD i 0 : Int) : Rat) = v := by rw [← hs]; exact Rat.div_mul_cancel (by grind)
     have s0 : 0 ≤ s := by
       refine Rat.not_lt.1 fun k => ?_
       have := Rat.mul_lt_mul_of_pos_right k dpos
       grind
     have s1 : p + s ≤ ((cuts.getD (i + 1) 0 : Int) : Rat) := by
       refine Rat.not_lt.1 fun k => ?_
       have : (((cuts.getD (i + 1) 0 : Int) : Rat) - p) < s := by grind
       have := Rat.mul_lt_mul_of_pos_right this dpos
       grind
     rw [fit_ok (i1.small (M := 1000) ⟨by omega, by omega⟩ (by omega) (by show -(1000 : Rat) ≤ _; grind) (by show _ ≤ (1000 : Rat); grind)),
       fit_ok (i2.small (M := 12000) ⟨by omega, by omega⟩ (by omega) (by show -(12000 : Rat) ≤ _; grind) (by show _ ≤ (12000 : Rat); grind)), if_neg c3,
       fit_ok (i3.small (M := 1000) ⟨by omega, by omega⟩ (by omega) (by show -(1000 : Rat) ≤ _; grind) (by show _ ≤ (1000 : Rat); grind)),
       fit_ok (i4.small (M := 1000) ⟨by omega, by omega⟩ (by omega) (by show -(1000 : Rat) ≤ _; grind) (by show _ ≤ (1000 : Rat); grind))]
     exact ⟨_, dens.getD i 0, rfl, ⟨by omega, hd2.2⟩, i4⟩
theorem mark_gen (h : VC len cuts dens) {p v : Rat} (p0 : 0 ≤ p) (p1 : p ≤ (len : Rat)) (v0 : 0 < v) (hv : v ≤ vX cuts dens (len : Rat) - vX cuts dens p) {D : Int} (D1 : 1 ≤ D) (D2 : D ≤ 1000000000000) (hp : In D p) (hvD : In D v) :
   ∃ q d, mrkC cuts dens p v = .ok q ∧ (1 ≤ d ∧ d ≤ 12) ∧ In (d * D) q ∧ vX cuts dens q = vX cuts dens p + v ∧ p < q ∧ q ≤ (len : Rat) ∧ ∀ x, x < q → vX cuts dens x < vX cuts dens q := by
 have c0 : cuts.getD 0 0 = 0 := h.2.2.2.2.2.1
 have t := vX_tot h
 have m0 := vX_mono h p0
 have tb : ((totC cuts dens : Int) : Rat) ≤ 12000 := Rat.intCast_le_intCast.2 (totC_bound h).2
 obtain ⟨q, d, e, hd, hq⟩ := mrkS_gen h dens.length 0 p v (by omega) (by rw [c0]; exact p0) p1 v0 hv D D1 D2 hp hvD (by grind)
 have ec : mrkC cuts dens p v = .ok q := by
   unfold mrkC
   rw [if_neg (by grind)]
   exact e
 obtain ⟨k1, k2, k3, _, k5⟩ := mrkC_vX h p0 p1 (Rat.le_of_lt v0) ec
 refine ⟨q, d, ec, hd, hq, k1, ?_, k3, k5 (by grind)⟩
 by_cases hlt : p < q
 · exact hlt
 · have : p = q := by grind
   rw [← this] at k1
   grind
end
end Go.Pf.Vc
namespace Go.Pf.Vc
open Go Go.Pf
section
variable {l : List Ck}
def vXA (l : List Ck) (a : Nat) (p : Rat) : Rat := vX (l.getD a default).cuts (l.getD a default).dens p
def lenR (l : List Ck) : Rat := ((l.getD 0 default).len : Rat)
end
end Go.Pf.Vc
namespace Go.Pf.Vc
open Go Go.Pf
section
variable {l : List Ck}
def valQ (an ad : Int) (a : Nat) (p v : Rat) : Qy := ⟨a, 1, an, ad, p.num, p.den, v.num, v.den⟩
def valE (l : List Ck) (an ad : Int) (m a : Nat) (p : Rat) : Except Int Rat := qryR l m a (Ck.value an ad p.num p.den)
theorem tvalue_eq (hd : DK l) {a : Nat} (_ : a < l.length) {an ad : Int} (ha : I64 an) (ha' : I64 ad) (lg : List Qy) {p : Rat} (hp : small p) (K : List PV → List PV → Int → Int → Int → Prop) :
   w_ask_Value (cks l) (logs lg) a an ad p.num p.den K =
     match valE l an ad lg.length a p with
     | .ok v => K (cks l) (logs (lg ++ [valQ an ad a p v])) v.num v.den 0
     | .error e => K [] [] 0 0 e := by
 have n6 := hd.n6
 rw [aValue_eq hd.fin (by omega) (logs_head lg) ha ha' hp.i1 hp.i2, logs_len]
 have em : qryR l lg.length a (Ck.value an ad p.num p.den) = valE l an ad lg.length a p := rfl
 rw [em]
 cases valE l an ad lg.length a p with
 | ok v =>
   show K (cks l) (logs lg ++ [_]) _ _ _ = K (cks l) (logs (lg ++ [_])) _ _ _
   rw [logs_app]; rfl
 | error c => rfl
end
end Go.Pf.Vc
namespace Go.Pf.Vc
open Go Go.Pf
section
variable {l : List Ck}
theorem valE_good (hd : DK l) {a : Nat} (h : a < l.length) {q p : Rat} (hs : small q) (hp : small p) (q0 : 0 ≤ q) (qp : q ≤ p) (p1 : p ≤ lenR l) {D : Int} (hD : 1 ≤ D ∧ D ≤ 50000000000000) (hq : In D q) (hpD : In D p) {m : Nat} (hm : m < 2000) :
   valE l q.num q.den m a p = .ok (vXA l a p - vXA l a q) ∧ QR l (valQ q.num q.den a p (vXA l a p - vXA l a q)) := by
 have hok := hd.ok a h
 have hlen := hd.len a h
 have p1' : p ≤ ((l.getD a default).len : Rat) := by rw [hlen]; exact p1
 have e : valR (l.getD a default).len (l.getD a default).cuts (l.getD a default).dens q.num q.den p.num p.den = .ok (vXA l a p - vXA l a q) := by
   unfold valR
   rw [if_pos hok.ck, rt_self, rt_self, if_pos ⟨PT_of hs q0 (Rat.le_trans qp p1'), PT_of hp (Rat.le_trans q0 qp) p1', Rat.not_lt.2 qp⟩]
   exact valC_good hok hD hq hpD q0 qp p1'
 refine ⟨?_, ⟨by show (0 : Int) ≤ a; omega, by show (a : Int) < _; omega⟩, ⟨hs.i1, hs.i2, hp.i1, hp.i2⟩, vXA l a p - vXA l a q, ⟨rfl, rfl⟩, .inr ⟨rfl, ?_⟩⟩
 · unfold valE qryR
   rw [if_pos (hd.err (by omega)), if_pos ⟨by omega, by omega⟩, Int.toNat_natCast]
   have : Ck.value q.num q.den p.num p.den (l.getD a default) = .ok (vXA l a p - vXA l a q) := e
   rw [this]
   show (if m ≥ 2000 then _ else _) = _
   rw [if_neg (by omega)]
 · exact e
theorem mk_small (hd : DK l) {q p : Rat} {d D : Int} (q0 : 0 ≤ q) (qp : q ≤ p) (p1 : p ≤ lenR l) (hd12 : 1 ≤ d ∧ d ≤ 12) (D1 : 1 ≤ D) (D2 : D ≤ 1000000000000) (h : In (d * D) p) : small p := by
 have hn := hd.n0
 have l0 := (hd.ok 0 (by omega)).len0
 have hL : lenR l ≤ 1000 := Rat.intCast_le_intCast.2 l0.2
 have hdD : d * D ≤ 12 * D := Int.mul_le_mul_of_nonneg_right hd12.2 (by omega)
 have hdD1 : 1 * 1 ≤ d * D := Int.mul_le_mul hd12.1 D1 (by omega) (by omega)
 exact h.small (M := 1000) ⟨by omega, by omega⟩ (by omega) (by show -(1000 : Rat) ≤ _; grind) (by show _ ≤ (1000 : Rat); grind)
end
end Go.Pf.Vc
namespace Go.Pf.Vc
open Go Go.Pf
set_option maxRecDepth 100000
section
variable {l : List Ck}
def mkV (l : List Ck) (a : Nat) (q v : Rat) : Rat := getR (mrkC (l.getD a default).cuts (l.getD a default).dens q v)
def mkQ (a : Nat) (q v p : Rat) : Qy := ⟨a, 2, q.num, q.den, v.num, v.den, p.num, p.den⟩
def vlQ (l : List Ck) (a : Nat) (q p : Rat) : Qy := valQ q.num q.den a p (vXA l a p - vXA l a q)
structure MkV (l : List Ck) (a : Nat) (q v : Rat) (D : Int) : Prop where
 e : mrkC (l.getD a default).cuts (l.getD a default).dens q v = .ok (mkV l a q v)
 d : ∃ d : Int, (1 ≤ d ∧ d ≤ 12) ∧ In (d * D) (mkV l a q v)
 eqv : vXA l a (mkV l a q v) = vXA l a q + v
 ge : q ≤ mkV l a q v
 le : mkV l a q v ≤ lenR l
theorem mkV_ok (hd : DK l) {a : Nat} (ha : a < l.length) {q v : Rat} (q0 : 0 ≤ q) (q1 : q ≤ lenR l) (v0 : 0 ≤ v) (hv : v ≤ vXA l a (lenR l) - vXA l a q) {D : Int} (D1 : 1 ≤ D) (D2 : D ≤ 1000000000000) (hq : In D q) (hvD : In D v) : MkV l a q v D := by
 have hok := hd.ok a ha
 have hlen := hd.len a ha
 by_cases hz : v = 0
 · have e : mrkC (l.getD a default).cuts (l.getD a default).dens q v = .ok q := by unfold mrkC; rw [if_pos hz]
   have g : mkV l a q v = q := by unfold mkV; rw [e]; rfl
   refine ⟨by rw [g]; exact e, ⟨1, by omega, by rw [g, Int.one_mul]; exact hq⟩, by rw [g, hz]; grind, by rw [g]; exact Rat.le_refl, by rw [g]; exact q1⟩
 have v0 : 0 < v := by grind
 unfold vXA lenR at *
 rw [← hlen] at q1 hv
 obtain ⟨p, d, e, hd12, hp, k1, k2, k3, k4⟩ := mark_gen hok q0 q1 v0 hv D1 D2 hq hvD
 obtain ⟨_, g2⟩ := getR_of e
 have g2 : mkV l a q v = p := g2
 refine ⟨?_, ⟨d, hd12, ?_⟩, ?_, ?_, ?_⟩
 · rw [g2]; exact e
 · rw [g2]; exact hp
 · rw [g2]; exact k1
 · rw [g2]; exact Rat.le_of_lt k2
 · rw [g2]; unfold lenR; rw [← hlen]; exact k3
theorem MkV.sm {a : Nat} {q v : Rat} {D : Int} (hd : DK l) (D1 : 1 ≤ D) (D2 : D ≤ 1000000000000) (q0 : 0 ≤ q) (h : MkV l a q v D) : small (mkV l a q v) := by
 obtain ⟨d, hd12, hp⟩ := h.d
 exact mk_small hd q0 h.ge h.le hd12 D1 D2 hp
theorem ask_mark3 (hd : DK l) {a : Nat} (ha : a < l.length) {q v : Rat} (hs : small q) (q0 : 0 ≤ q) (q1 : q ≤ lenR l) (hv : small v) (v0 : 0 ≤ v) {D : Int} (h : MkV l a q v D) {lg : List Qy} (hm : lg.length < 2000) (K : List PV → List PV → Int → Int → Int → Prop) :
   w_ask_Mark (cks l) (logs lg) a q.num q.den v.num v.den K = K (cks l) (logs (lg ++ [mkQ a q v (mkV l a q v)])) (mkV l a q v).num (mkV l a q v).den 0 := by
 have n6 := hd.n6
 have hok := hd.ok a ha
 have e1 : mrkR (l.getD a default).len (l.getD a default).cuts (l.getD a default).dens q.num q.den v.num v.den = .ok (mkV l a q v) := by
   unfold mrkR
   rw [if_pos hok.ck, if_pos ⟨PT_of hs q0 (by rw [hd.len a ha]; exact q1), hv.rv, Rat.num_nonneg.2 v0⟩, rt_self, rt_self]
   exact h.e
 have e2 : qryR l lg.length (a : Int) (Ck.mark q.num q.den v.num v.den) = .ok (mkV l a q v) := by
   unfold qryR
   rw [if_pos (hd.err (by omega)), if_pos ⟨by omega, by omega⟩, Int.toNat_natCast]
   have : Ck.mark q.num q.den v.num v.den (l.getD a default) = .ok (mkV l a q v) := e1
   rw [this]
   show (if lg.length ≥ 2000 then _ else _) = _
   rw [if_neg (by omega)]
 rw [aMark_eq hd.fin (by omega) (logs_head lg) hs.i1 hs.i2 hv.i1 hv.i2, logs_len, e2]
 show K (cks l) (logs lg ++ [_]) _ _ _ = K (cks l) (logs (lg ++ [_])) _ _ _
 rw [logs_app]; rfl
theorem value3 (hd : DK l) {a : Nat} (ha : a < l.length) {q p : Rat} (hs : small q) (hp : small p) (q0 : 0 ≤ q) (qp : q ≤ p) (p1 : p ≤ lenR l) {D : Int} (hD : 1 ≤ D ∧ D ≤ 50000000000000) (hq : In D q) (hpD : In D p) {lg : List Qy} (hm : lg.length < 2000) (K : List PV → List PV → Int → Int → Int → Prop) :
   w_ask_Value (cks l) (logs lg) a q.num q.den p.num p.den K = K (cks l) (logs (lg ++ [vlQ l a q p])) (vXA l a p - vXA l a q).num (vXA l a p - vXA l a q).den 0 := by
 rw [tvalue_eq hd ha hs.i1 hs.i2 lg hp, (valE_good hd ha hs hp q0 qp p1 hD hq hpD (m := lg.length) hm).1]
 rfl
def totR (l : List Ck) (a : Nat) : Rat := ((totC (l.getD a default).cuts (l.getD a default).dens : Int) : Rat)
end
end Go.Pf.Vc
namespace Go.Pf.Vc
open Go Go.Pf
set_option maxRecDepth 100000
theorem exS3 {P R : Nat → Prop} (h0 : P 0 = False) (h : ∀ n, P (n + 1) = R n) : (∃ n, P n) = ∃ n, R n :=
 propext ⟨fun ⟨n, hn⟩ => match n, hn with | 0, hn => (h0 ▸ hn).elim | n + 1, hn => ⟨n, (h n) ▸ hn⟩, fun ⟨n, hn⟩ => ⟨n + 1, (h n).symm ▸ hn⟩⟩
theorem exC3 {Q : Prop} : (∃ _ : Nat, Q) = Q := propext ⟨fun ⟨_, h⟩ => h, fun h => ⟨0, h⟩⟩
section
variable {l : List Ck}
def vS (l : List Ck) (a : Nat) (s : RS) : Rat := vXA l a s.2 - vXA l a s.1
end
end Go.Pf.Vc
namespace Go.Pf.Vc
open Go Go.Pf
set_option maxRecDepth 100000
section
variable {l : List Ck}
theorem tot3 (hd : DK l) {a : Nat} (ha : a < l.length) : vXA l a (lenR l) - vXA l a 0 = totR l a := by
 have h := vX_tot (hd.ok a ha)
 unfold vXA lenR totR
 rw [← hd.len a ha]
 exact h
theorem mono3 (hd : DK l) {a : Nat} (ha : a < l.length) {x y : Rat} (h : x ≤ y) : vXA l a x ≤ vXA l a y := vX_mono (hd.ok a ha) h
theorem lt3 (hd : DK l) {a : Nat} (ha : a < l.length) {x y : Rat} (h : vXA l a x < vXA l a y) : x < y := by
 refine Rat.not_le.1 fun k => ?_
 have := mono3 hd ha k
 grind
theorem tot0 (hd : DK l) {a : Nat} (ha : a < l.length) : 0 < totR l a := Rat.intCast_pos.2 (totC_pos (hd.ok a ha))
theorem tot12 (hd : DK l) {a : Nat} (ha : a < l.length) : totR l a ≤ 12000 := by
 have hok := hd.ok a ha
 have l0 := hok.len0
 have hw : 0 ≤ (0 : Rat) ∧ ((l.getD a default).len : Rat) ≤ ((l.getD a default).len : Rat) := ⟨Rat.le_refl, Rat.le_refl⟩
 have h := (dV_bound hok (s := ((0 : Rat), ((l.getD a default).len : Rat))) (by
   show (0 : Rat) < _
   exact Rat.intCast_pos.2 (by omega)) hw).2
 have e := vX_tot hok
 unfold totR
 rw [← e]
 exact h
theorem sm3 {q : Rat} {D : Int} (h : In D q) (hD : 1 ≤ D ∧ D ≤ 10000000000) (h0 : -12000 ≤ q) (h1 : q ≤ 12000) : small q :=
 h.small (M := 12000) ⟨hD.1, by omega⟩ (by omega) (by show -(12000 : Rat) ≤ _; grind) (by show _ ≤ (12000 : Rat); grind)
theorem vS_In {a : Nat} {D : Int} (hD : 1 ≤ D) {s : RS} (h : In D s.1 ∧ In D s.2) : In D (vS l a s) := (vX_In hD h.2).sub (vX_In hD h.1)
theorem vS_bound (hd : DK l) {a : Nat} (ha : a < l.length) {s : RS} (z : 0 ≤ s.1) (le : s.1 ≤ s.2) (hl : s.2 ≤ lenR l) : 0 ≤ vS l a s ∧ vS l a s ≤ totR l a := by
 have h1 := mono3 hd ha z
 have h2 := mono3 hd ha le
 have h3 := mono3 hd ha hl
 have h4 := tot3 hd ha
 unfold vS
 constructor <;> grind
end
end Go.Pf.Vc
namespace Go.Pf.Vc
open Go Go.Pf
set_option maxRecDepth 100000
set_option maxHeartbeats 1000000
section
variable {l : List Ck}
theorem rbeq3 {q r : Rat} : ((q.num == r.num) && (((q.den : Int) == (r.den : Int)) && true)) = decide (q = r) := by
 by_cases h : q = r
 · subst h; simp
 · rw [decide_eq_false h, Bool.and_true]
   cases h1 : (q.num == r.num) with
   | false => rfl
   | true =>
     cases h2 : ((q.den : Int) == (r.den : Int)) with
     | false => rfl
     | true =>
       simp only [beq_iff_eq] at h1 h2
       exact absurd (Rat.ext h1 (by omega)) h
end
end Go.Pf.Vc
namespace Go.Pf.Vc
open Go Go.Pf
set_option maxRecDepth 100000
set_option maxHeartbeats 1000000
section
variable {l : List Ck}
theorem aTotN (hd : DK l) {a : Nat} (h2 : a < l.length) {lg : List PV} (hm : lg.length ≤ 2000) (K : Int → Int → Prop) : w_ask_Total (cks l) lg a K = K (totC (l.getD a default).cuts (l.getD a default).dens) 0 := by
 have hok := hd.ok a h2
 have n6 := hd.n6
 have h1 := VC.l1 hok; have h3 := VC.l2 hok
 unfold w_ask_Total wv_ask_Total
 rw [aCheck_eq hd.fin (by omega), hd.err hm, cnF rfl, has_eq, decide_eq_true (by omega), Bool.not_true, cbr_false]
 simp only [lt]
 rw [cks_len, Int.toNat_natCast, cks_at h2, asT (by omega), asT (by omega), asCk, ck0, ck1, ck2, cTotal_eq (by omega) (by omega), if_pos (VC.ck hok)]
theorem hWhole (n : Int) (K : Int → Int → Prop) : w_halve_whole n K = K n 1 := rfl
def hAsk (l : List Ck) (q p : Rat) : Bool := decide (q.num > 0) || !decide (p = lenR l)
def hLog (l : List Ck) (a : Nat) (q p r : Rat) : List Qy := (bif hAsk l q p then [vlQ l a q p] else []) ++ [mkQ a q ((vXA l a p - vXA l a q) * r) (mkV l a q ((vXA l a p - vXA l a q) * r))]
def hAt (l : List Ck) (a : Nat) (q p r : Rat) : Rat := mkV l a q ((vXA l a p - vXA l a q) * r)
theorem hmark (hd : DK l) {a : Nat} (ha : a < l.length) {q p r : Rat} (hs : small q) (hp : small p) (hr : small r) (q0 : 0 ≤ q) (qp : q ≤ p) (p1 : p ≤ lenR l) (r0 : 0 ≤ r) {D : Int} (hD : 1 ≤ D ∧ D ≤ 50000000000000) (hq : In D q) (hpD : In D p) (hv : small (vXA l a p - vXA l a q)) (hw : small ((vXA l a p - vXA l a q) * r)) (v0 : 0 ≤ vXA l a p - vXA l a q) {E : Int} (h : MkV l a q ((vXA l a p - vXA l a q) * r) E) {lg : List Qy} (hm : lg.length + 1 < 2000) (K) :
   w_halve_mark (cks l) (logs lg) a q.num q.den p.num p.den r.num r.den K = K (cks l) (logs (lg ++ hLog l a q p r)) (hAt l a q p r).num (hAt l a q p r).den 0 := by
 have mul : ∀ K, w_ratio_Mul (vXA l a p - vXA l a q).num (vXA l a p - vXA l a q).den r.num r.den K = K ((vXA l a p - vXA l a q) * r).num ((vXA l a p - vXA l a q) * r).den 0 := fun K => (rMul_eq hv hr K).trans (by rw [fitK_if, if_pos hw])
 have w0 : 0 ≤ (vXA l a p - vXA l a q) * r := Rat.mul_nonneg v0 r0
 have tot : ∀ K, w_ask_Total (cks l) (logs lg) a K = K (totC (l.getD a default).cuts (l.getD a default).dens) 0 := fun K => aTotN hd ha (by rw [logs_len]; omega) K
 have n6 := hd.n6
 have h0 : 0 < l.length := by omega
 unfold w_halve_mark wv_halve_mark
 dsimp only [lt, Go.Pf.jn]
 rw [tot, hWhole, show ((0 : Int) == 0) = true from rfl, cbr_true]
 have lnum : (lenR l).num = (l.getD 0 default).len := Rat.num_intCast _
 have lden : (((lenR l).den : Nat) : Int) = 1 := by unfold lenR; rw [Rat.den_intCast]; rfl
 have e1 : ((p.num == (l.getD 0 default).len) && (((p.den : Int) == 1) && true)) = decide (p = lenR l) := by
   have := rbeq3 (q := p) (r := lenR l)
   rw [lnum, lden] at this
   exact this
 have mk : ∀ (lg' : List Qy) (K), lg'.length < 2000 → w_ask_Mark (cks l) (logs lg') a q.num q.den ((vXA l a p - vXA l a q) * r).num ((vXA l a p - vXA l a q) * r).den K = _ := fun lg' K hm' => ask_mark3 hd ha hs q0 (Rat.le_trans qp p1) hw w0 h hm' K
 have X : hAsk l q p = true → ∀ K' : List PV → List PV → Int → Int → Int → Prop, (w_ask_Value (cks l) (logs lg) a q.num q.den p.num p.den fun c g e0 e1 e2 => cbr (e2 == 0) (w_ratio_Mul e0 e1 r.num r.den fun y0 y1 y2 => cbr (y2 != 0) (K' c g 0 0 y2) (w_ask_Mark c g a q.num q.den y0 y1 fun c g z0 z1 z2 => K' c g z0 z1 z2)) (cbr (e2 != 0) (K' c g 0 0 e2) (w_ask_Mark c g a q.num q.den e0 e1 fun c g z0 z1 z2 => K' c g z0 z1 z2))) = K' (cks l) (logs (lg ++ hLog l a q p r)) (hAt l a q p r).num (hAt l a q p r).den 0 := fun hh K' => by
   rw [value3 hd ha hs hp q0 qp p1 hD hq hpD (by omega), show ((0 : Int) == 0) = true from rfl, cbr_true, mul, cnF rfl, mk _ _ (by rw [List.length_append, List.length_singleton]; omega)]
   unfold hLog hAt
   rw [hh, cond_true, List.append_assoc]
 by_cases hq0 : q.num > 0
 · rw [cbT hq0, cbr_true]
   exact X (by unfold hAsk; rw [decide_eq_true hq0]; rfl) K
 · rw [cbF hq0, cks_len, asT (by omega), cks_at h0, asCk, ck0, hWhole, e1]
   by_cases he : p = lenR l
   · rw [decide_eq_true he, Bool.not_true, cbr_false]
     have hz : q = 0 := Rat.num_eq_zero.1 (by have := Rat.num_nonneg.2 q0; omega)
     have ev : vXA l a p - vXA l a q = totR l a := by rw [he, hz, tot3 hd ha]
     have en : (vXA l a p - vXA l a q).num = totC (l.getD a default).cuts (l.getD a default).dens := by rw [ev]; exact Rat.num_intCast _
     have ed : (((vXA l a p - vXA l a q).den : Nat) : Int) = 1 := by rw [ev]; unfold totR; rw [Rat.den_intCast]; rfl
     rw [← en, ← ed, mul, cnF rfl, mk _ _ (by omega)]
     unfold hLog hAt hAsk
     rw [decide_eq_false hq0, decide_eq_true he]
     rfl
   · rw [decide_eq_false he, Bool.not_false, cbr_true]
     exact X (by unfold hAsk; rw [decide_eq_false he, Bool.not_false, Bool.or_true]) K
end
end Go.Pf.Vc
namespace Go.Pf.Vc
open Go Go.Pf
set_option maxRecDepth 100000
set_option maxHeartbeats 1000000
def encH (h : Nat × Rat) : PV := .agg [.int .i64 h.1, .int .i64 h.2.num, .int .i64 h.2.den]
def ltH (x y : Nat × Rat) : Bool := decide (cmpQ x.2 y.2 < 0)
def insV {α : Type} (lt : α → α → Bool) : List α → α → List α
 | [], x => [x]
 | y :: R, x => bif lt x y then y :: insV lt R x else x :: y :: R
theorem hCmp {x y : Nat × Rat} (hx : small x.2) (hy : small y.2) (K : Int → Prop) : w_halve_Split_1 (x.1 : Int) x.2.num x.2.den (y.1 : Int) y.2.num y.2.den K = K (cmpQ x.2 y.2) := by
 unfold w_halve_Split_1 wv_halve_Split_1 w_halve_order wv_halve_order
 rw [rCmp_eq hx hy]
theorem getH (R : List (Nat × Rat)) (x : Nat × Rat) (B : List (Nat × Rat)) {k : Nat} (h : k = R.length) : List.getD ((R.reverse ++ x :: B).map encH) k .nils = encH x := by
 subst h
 rw [List.getD_eq_getElem?_getD, List.getElem?_map, List.getElem?_append_right (by rw [List.length_reverse]; exact Nat.le_refl _), List.length_reverse, Nat.sub_self]
 rfl
theorem getH1 (R : List (Nat × Rat)) (y x : Nat × Rat) (B : List (Nat × Rat)) {k : Nat} (h : k = R.length + 1) : List.getD ((R.reverse ++ y :: x :: B).map encH) k .nils = encH x := by
 have := getH (y :: R) x B (k := k) (by rw [h]; rfl)
 rw [List.reverse_cons, List.append_assoc] at this
 exact this
theorem setH (R : List (Nat × Rat)) (y x : Nat × Rat) (B : List (Nat × Rat)) : List.set (List.set ((R.reverse ++ y :: x :: B).map encH) (R.length + 1) (encH y)) R.length (encH x) = (R.reverse ++ x :: y :: B).map encH := by
 rw [← List.map_set, ← List.map_set, List.set_append_right _ _ (by rw [List.length_reverse]; omega), List.length_reverse, List.set_append_right _ _ (by rw [List.length_reverse]; omega), List.length_reverse]
 simp
theorem in4s (R : List (Nat × Rat)) (y x : Nat × Rat) (B : List (Nat × Rat)) (hl : (R.reverse ++ y :: x :: B).length < 4611686018427387904) (hx : small x.2) (hy : small y.2) (b c : Int) {a0 a1 a2 a3 a4 a5 a6 a8 x1} (n : Nat) :
   L_halve_Split_4_1 a0 a1 a2 a3 a4 a5 a6 w_halve_Split_1 a8 x1 (n + 1) ((R.reverse ++ y :: x :: B).map encH) 0 b c ((R.length : Int) + 1) =
   cbr (ltH x y) (L_halve_Split_4_1 a0 a1 a2 a3 a4 a5 a6 w_halve_Split_1 a8 x1 n ((R.reverse ++ x :: y :: B).map encH) 0 b c (R.length : Int)) (x1 ((R.reverse ++ y :: x :: B).map encH) 0 b c ((R.length : Int) + 1) false) := by
 have h1 : (R.reverse ++ y :: x :: B).length = R.length + (B.length + 2) := by rw [List.length_append, List.length_reverse]; rfl
 rw [h1] at hl
 have gx : List.getD ((R.reverse ++ y :: x :: B).map encH) (0 + ((R.length : Int) + 1).toNat) .nils = encH x := getH1 _ _ _ _ (by omega)
 have gy : List.getD ((R.reverse ++ y :: x :: B).map encH) (0 + (R.length : Int).toNat) .nils = encH y := getH _ _ _ (by omega)
 have w : IntKind.i64.wrap ((R.length : Int) + 1 - 1) = (R.length : Int) := by rw [wib (by omega) (by omega)]; omega
 conv => lhs; unfold L_halve_Split_4_1
 dsimp only [lt, Go.Pf.jn]
 rw [cbT (by omega), w, gx, gy]
 have hlen : ((R.reverse ++ y :: x :: B).map encH).length = R.length + (B.length + 2) := by rw [List.length_map, h1]
 iterate 4 refine (asTT (by first | rfl | exact decide_eq_true (by rw [hlen]; omega) | exact decide_eq_true (by omega))).trans ?_
 refine (asTT rfl).trans ?_
 iterate 4 refine (asTT (by first | rfl | exact decide_eq_true (by rw [hlen]; omega) | exact decide_eq_true (by omega))).trans ?_
 refine (asTT rfl).trans ?_
 refine (hCmp hx hy _).trans ?_
 refine congrArg (fun z => cbr (ltH x y) z _) ?_
 have k1 : 0 + ((R.length : Int) + 1).toNat = R.length + 1 := by omega
 have k0 : 0 + (R.length : Int).toNat = R.length := by omega
 have gs : List.getD (List.set ((R.reverse ++ y :: x :: B).map encH) (R.length + 1) (encH y)) R.length .nils = encH y := by
   rw [List.getD_eq_getElem?_getD, List.getElem?_set_ne (by omega), ← List.getD_eq_getElem?_getD]
   rw [← gy, k0]
 have hcf : conf (.agg [.i .i64, .i .i64, .i .i64]) (List.getD (List.set ((R.reverse ++ y :: x :: B).map encH) (R.length + 1) (encH y)) R.length .nils) = true := by rw [gs]; rfl
 have hs : (List.set ((R.reverse ++ y :: x :: B).map encH) (R.length + 1) (encH y)).length = R.length + (B.length + 2) := by rw [List.length_set, hlen]
 have hss : (List.set (List.set ((R.reverse ++ y :: x :: B).map encH) (R.length + 1) (encH y)) R.length (encH x)).length = R.length + (B.length + 2) := by rw [List.length_set, hs]
 rw [k1, k0]
 iterate 4 refine (asTT (by first | rfl | exact decide_eq_true (by rw [hlen]; omega) | exact decide_eq_true (by omega))).trans ?_
 refine (asTT rfl).trans ?_
 iterate 4 refine (asTT (by first | rfl | exact decide_eq_true (by rw [hlen]; omega) | exact decide_eq_true (by omega))).trans ?_
 refine (asTT rfl).trans ?_
 iterate 4 refine (asTT (by first | rfl | exact decide_eq_true (by rw [hlen]; omega) | exact decide_eq_true (by omega))).trans ?_
 refine (asTT rfl).trans ?_
 iterate 4 refine (asTT (by first | rfl | exact decide_eq_true (by rw [hlen]; omega) | exact decide_eq_true (by omega) | exact decide_eq_true (hs.trans hlen.symm) | exact decide_eq_true (by show _ < (List.set _ _ (encH y)).length; rw [hs]; omega))).trans ?_
 refine (asTT hcf).trans ?_
 have ee : decide ((List.map encH (R.reverse ++ y :: x :: B)).length = (List.set (List.set ((R.reverse ++ y :: x :: B).map encH) (R.length + 1) (encH y)) R.length (encH x)).length) = true := decide_eq_true (hlen.trans hss.symm)
 refine (asTT (by rw [Bool.and_eq_true]; exact ⟨ee, ee⟩)).trans ?_
 have e := setH R y x B
 show L_halve_Split_4_1 _ _ _ _ _ _ _ _ _ _ _ (List.set (List.set ((R.reverse ++ y :: x :: B).map encH) (R.length + 1) (encH y)) R.length (encH x)) _ _ _ _ = _
 rw [e]
theorem in4z (x : Nat × Rat) (B : List (Nat × Rat)) (b c : Int) {a0 a1 a2 a3 a4 a5 a6 a7 a8 x1} (n : Nat) :
   L_halve_Split_4_1 a0 a1 a2 a3 a4 a5 a6 a7 a8 x1 (n + 1) ((x :: B).map encH) 0 b c 0 = x1 ((x :: B).map encH) 0 b c 0 false := by
 conv => lhs; unfold L_halve_Split_4_1
 dsimp only [lt, Go.Pf.jn]
 rw [cbF (by omega), cbr_false]
theorem in4 {a0 a1 a2 a3 a4 a5 a6 a8 x1} (b c : Int) {Y : List PV → Prop} (hX : ∀ v j, x1 v 0 b c j false = Y v) : ∀ (R : List (Nat × Rat)) (x : Nat × Rat) (B : List (Nat × Rat)), (R.reverse ++ x :: B).length < 4611686018427387904 → small x.2 → (∀ y ∈ R, small y.2) →
   (∃ n, L_halve_Split_4_1 a0 a1 a2 a3 a4 a5 a6 w_halve_Split_1 a8 x1 n ((R.reverse ++ x :: B).map encH) 0 b c (R.length : Int)) = Y (((insV ltH R x).reverse ++ B).map encH)
 | [], x, B, hl, hx, hR => by
   rw [exS3 rfl (R := fun _ => x1 ((x :: B).map encH) 0 b c 0 false) (fun n => in4z x B b c n), exC3, hX]
   rfl
 | y :: R, x, B, hl, hx, hR => by
   have e1 : (y :: R).reverse ++ x :: B = R.reverse ++ y :: x :: B := by rw [List.reverse_cons, List.append_assoc]; rfl
   have e2 : (((y :: R).length : Nat) : Int) = (R.length : Int) + 1 := by simp
   rw [e1] at hl ⊢
   rw [e2]
   have ih := in4 (a0 := a0) (a1 := a1) (a2 := a2) (a3 := a3) (a4 := a4) (a5 := a5) (a6 := a6) (a8 := a8) b c hX R x (y :: B) (by rw [List.length_append] at hl ⊢; exact hl) hx (fun z hz => hR z (List.mem_cons_of_mem _ hz))
   cases ht : ltH x y with
   | true =>
     rw [exS3 rfl (R := fun n => L_halve_Split_4_1 a0 a1 a2 a3 a4 a5 a6 w_halve_Split_1 a8 x1 n ((R.reverse ++ x :: y :: B).map encH) 0 b c (R.length : Int)) (fun n => by rw [in4s R y x B hl hx (hR y (List.mem_cons_self ..)) b c n, ht, cbr_true]), ih]
     rw [show insV ltH (y :: R) x = y :: insV ltH R x by (show (bif ltH x y then _ else _) = _; rw [ht]; rfl), List.reverse_cons, List.append_assoc]
     rfl
   | false =>
     rw [exS3 rfl (R := fun _ => x1 ((R.reverse ++ y :: x :: B).map encH) 0 b c ((R.length : Int) + 1) false) (fun n => by rw [in4s R y x B hl hx (hR y (List.mem_cons_self ..)) b c n, ht, cbr_false]), exC3, hX]
     rw [show insV ltH (y :: R) x = x :: y :: R by (show (bif ltH x y then _ else _) = _; rw [ht]; rfl), List.reverse_cons, List.reverse_cons, List.append_assoc, List.append_assoc]
     rfl
theorem insV_len {α : Type} (lt : α → α → Bool) (x : α) : ∀ R, (insV lt R x).length = R.length + 1
 | [] => rfl
 | y :: R => by
   unfold insV
   cases lt x y with
   | true => rw [cond_true, List.length_cons, insV_len lt x R]; rfl
   | false => rfl
theorem insV_mem {α : Type} (lt : α → α → Bool) (x : α) {z : α} : ∀ {R}, z ∈ insV lt R x ↔ z = x ∨ z ∈ R
 | [] => by simp [insV]
 | y :: R => by
   unfold insV
   cases lt x y with
   | true => rw [cond_true, List.mem_cons, insV_mem lt x, List.mem_cons]; exact ⟨fun h => by rcases h with h | h | h <;> simp [h], fun h => by rcases h with h | h | h <;> simp [h]⟩
   | false => rw [cond_false, List.mem_cons, List.mem_cons]
def allV {α : Type} (lt : α → α → Bool) : List α → List α → List α
 | R, [] => R
 | R, x :: B => allV lt (insV lt R x) B
theorem out3 {a0 a1 a2 a3 a4 a5 a6 a8 x1} {Y : List PV → Prop} {N : Nat} (hN : N < 4611686018427387904) (hX : ∀ v j, x1 v 0 (N : Int) j false = Y v) : ∀ (B R : List (Nat × Rat)), R.length + B.length = N → (∀ y ∈ R, small y.2) → (∀ y ∈ B, small y.2) →
   (∃ n, L_halve_Split_3_1 a0 a1 a2 a3 a4 a5 a6 w_halve_Split_1 a8 x1 n ((R.reverse ++ B).map encH) 0 (N : Int) (R.length : Int)) = Y ((allV ltH R B).reverse.map encH)
 | [], R, hl, hR, hB => by
   have e : ∀ n, L_halve_Split_3_1 a0 a1 a2 a3 a4 a5 a6 w_halve_Split_1 a8 x1 (n + 1) ((R.reverse ++ []).map encH) 0 (N : Int) (R.length : Int) = Y ((allV ltH R []).reverse.map encH) := fun n => by
     conv => lhs; unfold L_halve_Split_3_1
     rw [cbF (by simp only [List.length_nil] at hl; omega), hX, List.append_nil]
     rfl
   rw [exS3 rfl (R := fun _ => _) e, exC3]
 | x :: B, R, hl, hR, hB => by
   have hl' : R.length + (B.length + 1) = N := hl
   have hx := hB x (List.mem_cons_self ..)
   have hB' : ∀ y ∈ B, small y.2 := fun y hy => hB y (List.mem_cons_of_mem _ hy)
   have hR' : ∀ y ∈ insV ltH R x, small y.2 := fun y hy => by
     rcases (insV_mem ltH x).1 hy with rfl | h
     · exact hx
     · exact hR y h
   have ih := out3 (a0 := a0) (a1 := a1) (a2 := a2) (a3 := a3) (a4 := a4) (a5 := a5) (a6 := a6) (a8 := a8) hN hX B (insV ltH R x) (by rw [insV_len]; omega) hR' hB'
   rw [insV_len] at ih
   have w : IntKind.i64.wrap ((R.length : Int) + 1) = (((R.length + 1 : Nat)) : Int) := by rw [wib (by omega) (by omega)]; omega
   have e : ∀ n, L_halve_Split_3_1 a0 a1 a2 a3 a4 a5 a6 w_halve_Split_1 a8 x1 (n + 1) ((R.reverse ++ x :: B).map encH) 0 (N : Int) (R.length : Int) = L_halve_Split_3_1 a0 a1 a2 a3 a4 a5 a6 w_halve_Split_1 a8 x1 n (((insV ltH R x).reverse ++ B).map encH) 0 (N : Int) ((R.length + 1 : Nat) : Int) := fun n => by
     conv => lhs; unfold L_halve_Split_3_1
     dsimp only [lt]
     rw [cbT (by omega)]
     refine (asTT (by simp)).trans ?_
     refine (in4 (N : Int) (R.length : Int) (Y := fun v => L_halve_Split_3_1 a0 a1 a2 a3 a4 a5 a6 w_halve_Split_1 a8 x1 n v 0 (N : Int) ((R.length + 1 : Nat) : Int)) (fun v j => by rw [w]; exact asTT (by simp)) R x B (by rw [List.length_append, List.length_reverse, List.length_cons]; omega) hx hR)
   rw [exS3 rfl (R := fun n => L_halve_Split_3_1 a0 a1 a2 a3 a4 a5 a6 w_halve_Split_1 a8 x1 n (((insV ltH R x).reverse ++ B).map encH) 0 (N : Int) ((R.length + 1 : Nat) : Int)) e, ih]
   rfl
end Go.Pf.Vc
namespace Go.Pf.Vc
open Go Go.Pf
set_option maxRecDepth 100000
set_option maxHeartbeats 1000000
def ltV (x y : Nat) : Bool := decide ((x : Int) < (y : Int))
def encV (x : Nat) : PV := .int .i64 (x : Int)
theorem hLess (x y : Nat) (K : Bool → Prop) : w_cmp_Less_int (x : Int) (y : Int) K = K (ltV x y) := by
 unfold w_cmp_Less_int wv_cmp_Less_int
 simp only [w_cmp_isNaN_int, wv_cmp_isNaN_int, bne_self_eq_false, cbr_false, Go.Pf.jn]
 rfl
theorem getV (R : List Nat) (x : Nat) (B : List Nat) {k : Nat} (h : k = R.length) : List.getD ((R.reverse ++ x :: B).map encV) k .nils = encV x := by
 subst h
 rw [List.getD_eq_getElem?_getD, List.getElem?_map, List.getElem?_append_right (by rw [List.length_reverse]; exact Nat.le_refl _), List.length_reverse, Nat.sub_self]
 rfl
theorem getV1 (R : List Nat) (y x : Nat) (B : List Nat) {k : Nat} (h : k = R.length + 1) : List.getD ((R.reverse ++ y :: x :: B).map encV) k .nils = encV x := by
 have := getV (y :: R) x B (k := k) (by rw [h]; rfl)
 rw [List.reverse_cons, List.append_assoc] at this
 exact this
theorem setV (R : List Nat) (y x : Nat) (B : List Nat) : List.set (List.set ((R.reverse ++ y :: x :: B).map encV) (R.length + 1) (encV y)) R.length (encV x) = (R.reverse ++ x :: y :: B).map encV := by
 rw [← List.map_set, ← List.map_set, List.set_append_right _ _ (by rw [List.length_reverse]; omega), List.length_reverse, List.set_append_right _ _ (by rw [List.length_reverse]; omega), List.length_reverse]
 simp
theorem in9s4 (l0 l2 : List PV) (R : List Nat) (y x : Nat) (B : List Nat) {N : Nat} (hN : R.length + (B.length + 2) = N) (hl : N < 4611686018427387904) (b c : Int) {a0 a1 a2 a3 a4 a5 a6 a7 x1} (n : Nat) :
   L_halve_Split_9_4 a0 a1 a2 a3 a4 a5 a6 a7 w_cmp_Less_int x1 (n + 1) l0 ((R.reverse ++ y :: x :: B).map encV) l2 N N 0 b c ((R.length : Int) + 1) =
   cbr (ltV x y) (L_halve_Split_9_4 a0 a1 a2 a3 a4 a5 a6 a7 w_cmp_Less_int x1 n l0 ((R.reverse ++ x :: y :: B).map encV) l2 N N 0 b c (R.length : Int)) (x1 l0 ((R.reverse ++ y :: x :: B).map encV) l2 N N 0 b c ((R.length : Int) + 1) false) := by
 have gx : List.getD ((R.reverse ++ y :: x :: B).map encV) (0 + ((R.length : Int) + 1).toNat) .nils = encV x := getV1 _ _ _ _ (by omega)
 have gy : List.getD ((R.reverse ++ y :: x :: B).map encV) (0 + (R.length : Int).toNat) .nils = encV y := getV _ _ _ (by omega)
 have w : IntKind.i64.wrap ((R.length : Int) + 1 - 1) = (R.length : Int) := by rw [wib (by omega) (by omega)]; omega
 conv => lhs; unfold L_halve_Split_9_4
 dsimp only [lt, Go.Pf.jn]
 rw [cbT (by omega), w, gx, gy]
 have hlen : ((R.reverse ++ y :: x :: B).map encV).length = N := by rw [List.length_map, List.length_append, List.length_reverse, ← hN]; rfl
 have k1 : 0 + ((R.length : Int) + 1).toNat = R.length + 1 := by omega
 have k0 : 0 + (R.length : Int).toNat = R.length := by omega
 have gs : List.getD (List.set ((R.reverse ++ y :: x :: B).map encV) (R.length + 1) (encV y)) R.length .nils = encV y := by
   rw [List.getD_eq_getElem?_getD, List.getElem?_set_ne (by omega), ← List.getD_eq_getElem?_getD]
   rw [← gy, k0]
 have hcf : conf zI (List.getD (List.set ((R.reverse ++ y :: x :: B).map encV) (R.length + 1) (encV y)) R.length .nils) = true := by rw [gs]; rfl
 have hs : (List.set ((R.reverse ++ y :: x :: B).map encV) (R.length + 1) (encV y)).length = N := by rw [List.length_set, hlen]
 iterate 4 refine (asTT (by first | rfl | exact decide_eq_true (by rw [hlen]; omega) | exact decide_eq_true (by omega) | exact decide_eq_true hlen | exact decide_eq_true hs | exact decide_eq_true (by show _ < (List.set _ _ (encV y)).length; rw [hs]; omega))).trans ?_
 refine (asTT rfl).trans ?_
 iterate 4 refine (asTT (by first | rfl | exact decide_eq_true (by rw [hlen]; omega) | exact decide_eq_true (by omega) | exact decide_eq_true hlen | exact decide_eq_true hs | exact decide_eq_true (by show _ < (List.set _ _ (encV y)).length; rw [hs]; omega))).trans ?_
 refine (asTT rfl).trans ?_
 refine (hLess x y _).trans ?_
 refine congrArg (fun z => cbr (ltV x y) z _) ?_
 rw [k1, k0]
 iterate 4 refine (asTT (by first | rfl | exact decide_eq_true (by rw [hlen]; omega) | exact decide_eq_true (by omega) | exact decide_eq_true hlen | exact decide_eq_true hs | exact decide_eq_true (by show _ < (List.set _ _ (encV y)).length; rw [hs]; omega))).trans ?_
 refine (asTT rfl).trans ?_
 iterate 4 refine (asTT (by first | rfl | exact decide_eq_true (by rw [hlen]; omega) | exact decide_eq_true (by omega) | exact decide_eq_true hlen | exact decide_eq_true hs | exact decide_eq_true (by show _ < (List.set _ _ (encV y)).length; rw [hs]; omega))).trans ?_
 refine (asTT rfl).trans ?_
 iterate 4 refine (asTT (by first | rfl | exact decide_eq_true (by rw [hlen]; omega) | exact decide_eq_true (by omega) | exact decide_eq_true hlen | exact decide_eq_true hs | exact decide_eq_true (by show _ < (List.set _ _ (encV y)).length; rw [hs]; omega))).trans ?_
 refine (asTT rfl).trans ?_
 iterate 4 refine (asTT (by first | rfl | exact decide_eq_true (by rw [hlen]; omega) | exact decide_eq_true (by omega) | exact decide_eq_true hlen | exact decide_eq_true hs | exact decide_eq_true (by show _ < (List.set _ _ (encV y)).length; rw [hs]; omega))).trans ?_
 refine (asTT hcf).trans ?_
 have e := setV R y x B
 show L_halve_Split_9_4 _ _ _ _ _ _ _ _ _ _ _ l0 (List.set (List.set ((R.reverse ++ y :: x :: B).map encV) (R.length + 1) (encV y)) R.length (encV x)) l2 _ _ _ _ _ _ = _
 rw [e]
theorem in9z4 (l0 l2 : List PV) (x : Nat) (B : List Nat) (N : Nat) (b c : Int) {a0 a1 a2 a3 a4 a5 a6 a7 a8 x1} (n : Nat) :
   L_halve_Split_9_4 a0 a1 a2 a3 a4 a5 a6 a7 a8 x1 (n + 1) l0 ((x :: B).map encV) l2 N N 0 b c 0 = x1 l0 ((x :: B).map encV) l2 N N 0 b c 0 false := by
 conv => lhs; unfold L_halve_Split_9_4
 dsimp only [lt, Go.Pf.jn]
 rw [cbF (by omega), cbr_false]
theorem in94 (l0 l2 : List PV) {a0 a1 a2 a3 a4 a5 a6 a7 x1} (b c : Int) {N : Nat} (hl : N < 4611686018427387904) {Y : List PV → Prop} (hX : ∀ v j, x1 l0 v l2 N N 0 b c j false = Y v) : ∀ (R : List Nat) (x : Nat) (B : List Nat), R.length + (B.length + 1) = N →
   (∃ n, L_halve_Split_9_4 a0 a1 a2 a3 a4 a5 a6 a7 w_cmp_Less_int x1 n l0 ((R.reverse ++ x :: B).map encV) l2 N N 0 b c (R.length : Int)) = Y (((insV ltV R x).reverse ++ B).map encV)
 | [], x, B, hN => by
   rw [exS3 rfl (R := fun _ => x1 l0 ((x :: B).map encV) l2 N N 0 b c 0 false) (fun n => in9z4 l0 l2 x B N b c n), exC3, hX]
   rfl
 | y :: R, x, B, hN => by
   have e1 : (y :: R).reverse ++ x :: B = R.reverse ++ y :: x :: B := by rw [List.reverse_cons, List.append_assoc]; rfl
   have e2 : (((y :: R).length : Nat) : Int) = (R.length : Int) + 1 := by simp
   rw [List.length_cons] at hN
   rw [e1, e2]
   have ih := in94 (a0 := a0) (a1 := a1) (a2 := a2) (a3 := a3) (a4 := a4) (a5 := a5) (a6 := a6) (a7 := a7) l0 l2 b c hl hX R x (y :: B) (by rw [List.length_cons]; omega)
   cases ht : ltV x y with
   | true =>
     rw [exS3 rfl (R := fun n => L_halve_Split_9_4 a0 a1 a2 a3 a4 a5 a6 a7 w_cmp_Less_int x1 n l0 ((R.reverse ++ x :: y :: B).map encV) l2 N N 0 b c (R.length : Int)) (fun n => by rw [in9s4 l0 l2 R y x B (by omega) hl b c n, ht, cbr_true]), ih]
     rw [show insV ltV (y :: R) x = y :: insV ltV R x by (show (bif ltV x y then _ else _) = _; rw [ht]; rfl), List.reverse_cons, List.append_assoc]
     rfl
   | false =>
     rw [exS3 rfl (R := fun _ => x1 l0 ((R.reverse ++ y :: x :: B).map encV) l2 N N 0 b c ((R.length : Int) + 1) false) (fun n => by rw [in9s4 l0 l2 R y x B (by omega) hl b c n, ht, cbr_false]), exC3, hX]
     rw [show insV ltV (y :: R) x = x :: y :: R by (show (bif ltV x y then _ else _) = _; rw [ht]; rfl), List.reverse_cons, List.reverse_cons, List.append_assoc, List.append_assoc]
     rfl
theorem out84 (l0 l2 : List PV) {a0 a1 a2 a3 a4 a5 a6 a7 x1} {Y : List PV → Prop} {N : Nat} (hN : N < 4611686018427387904) (hX : ∀ v j, x1 l0 v l2 N N 0 (N : Int) j false = Y v) : ∀ (B R : List Nat), R.length + B.length = N →
   (∃ n, L_halve_Split_8_4 a0 a1 a2 a3 a4 a5 a6 a7 w_cmp_Less_int x1 n l0 ((R.reverse ++ B).map encV) l2 N N 0 (N : Int) (R.length : Int)) = Y ((allV ltV R B).reverse.map encV)
 | [], R, hl => by
   have e : ∀ n, L_halve_Split_8_4 a0 a1 a2 a3 a4 a5 a6 a7 w_cmp_Less_int x1 (n + 1) l0 ((R.reverse ++ []).map encV) l2 N N 0 (N : Int) (R.length : Int) = Y ((allV ltV R []).reverse.map encV) := fun n => by
     conv => lhs; unfold L_halve_Split_8_4
     rw [cbF (by simp only [List.length_nil] at hl; omega), hX, List.append_nil]
     rfl
   rw [exS3 rfl (R := fun _ => _) e, exC3]
 | x :: B, R, hl => by
   have hl' : R.length + (B.length + 1) = N := hl
   have ih := out84 (a0 := a0) (a1 := a1) (a2 := a2) (a3 := a3) (a4 := a4) (a5 := a5) (a6 := a6) (a7 := a7) l0 l2 hN hX B (insV ltV R x) (by rw [insV_len]; omega)
   rw [insV_len] at ih
   have w : IntKind.i64.wrap ((R.length : Int) + 1) = (((R.length + 1 : Nat)) : Int) := by rw [wib (by omega) (by omega)]; omega
   have e : ∀ n, L_halve_Split_8_4 a0 a1 a2 a3 a4 a5 a6 a7 w_cmp_Less_int x1 (n + 1) l0 ((R.reverse ++ x :: B).map encV) l2 N N 0 (N : Int) (R.length : Int) = L_halve_Split_8_4 a0 a1 a2 a3 a4 a5 a6 a7 w_cmp_Less_int x1 n l0 (((insV ltV R x).reverse ++ B).map encV) l2 N N 0 (N : Int) ((R.length + 1 : Nat) : Int) := fun n => by
     conv => lhs; unfold L_halve_Split_8_4
     dsimp only [lt]
     rw [cbT (by omega)]
     refine (in94 l0 l2 (N : Int) (R.length : Int) hN (Y := fun v => L_halve_Split_8_4 a0 a1 a2 a3 a4 a5 a6 a7 w_cmp_Less_int x1 n l0 v l2 N N 0 (N : Int) ((R.length + 1 : Nat) : Int)) (fun v j => by rw [w]) R x B hl')
   rw [exS3 rfl (R := fun n => L_halve_Split_8_4 a0 a1 a2 a3 a4 a5 a6 a7 w_cmp_Less_int x1 n l0 (((insV ltV R x).reverse ++ B).map encV) l2 N N 0 (N : Int) ((R.length + 1 : Nat) : Int)) e, ih]
   rfl
theorem sort74' (l0 l2 : List PV) {a0 a1 a2 a3 a4 a5 a6 a7 X} (x : Nat) (B : List Nat) (hN : B.length + 1 ≤ 12) (h : Int) (b b' : Bool) :
   (∃ n, L_halve_Split_7_4 a0 a1 a2 a3 a4 a5 a6 a7 w_cmp_Less_int X n l0 ((x :: B).map encV) l2 (B.length + 1) (B.length + 1) 0 ((B.length + 1 : Nat) : Int) h b b') = X l0 ((allV ltV [x] B).reverse.map encV) l2 := by
 have e : ∀ n, L_halve_Split_7_4 a0 a1 a2 a3 a4 a5 a6 a7 w_cmp_Less_int X (n + 1) l0 ((x :: B).map encV) l2 (B.length + 1) (B.length + 1) 0 ((B.length + 1 : Nat) : Int) h b b' = X l0 ((allV ltV [x] B).reverse.map encV) l2 := fun n => by
   conv => lhs; unfold L_halve_Split_7_4
   dsimp only [lt]
   rw [wib (by omega) (by omega), cbT (by omega), wib (by omega) (by omega)]
   exact out84 l0 l2 (Y := fun v => X l0 v l2) (N := B.length + 1) (by omega) (fun v j => rfl) B [x] (by simp only [List.length_cons, List.length_nil]; omega)
 rw [exS3 rfl (R := fun _ => _) e, exC3]
theorem in9s5 (l0 l1 : List PV) (R : List Nat) (y x : Nat) (B : List Nat) {N : Nat} (hN : R.length + (B.length + 2) = N) (hl : N < 4611686018427387904) (b c : Int) {a0 a1 a2 a3 a4 a5 a6 a7 x1} (n : Nat) :
   L_halve_Split_9_5 a0 a1 a2 a3 a4 a5 a6 a7 w_cmp_Less_int x1 (n + 1) l0 l1 ((R.reverse ++ y :: x :: B).map encV) N N 0 b c ((R.length : Int) + 1) =
   cbr (ltV x y) (L_halve_Split_9_5 a0 a1 a2 a3 a4 a5 a6 a7 w_cmp_Less_int x1 n l0 l1 ((R.reverse ++ x :: y :: B).map encV) N N 0 b c (R.length : Int)) (x1 l0 l1 ((R.reverse ++ y :: x :: B).map encV) N N 0 b c ((R.length : Int) + 1) false) := by
 have gx : List.getD ((R.reverse ++ y :: x :: B).map encV) (0 + ((R.length : Int) + 1).toNat) .nils = encV x := getV1 _ _ _ _ (by omega)
 have gy : List.getD ((R.reverse ++ y :: x :: B).map encV) (0 + (R.length : Int).toNat) .nils = encV y := getV _ _ _ (by omega)
 have w : IntKind.i64.wrap ((R.length : Int) + 1 - 1) = (R.length : Int) := by rw [wib (by omega) (by omega)]; omega
 conv => lhs; unfold L_halve_Split_9_5
 dsimp only [lt, Go.Pf.jn]
 rw [cbT (by omega), w, gx, gy]
 have hlen : ((R.reverse ++ y :: x :: B).map encV).length = N := by rw [List.length_map, List.length_append, List.length_reverse, ← hN]; rfl
 have k1 : 0 + ((R.length : Int) + 1).toNat = R.length + 1 := by omega
 have k0 : 0 + (R.length : Int).toNat = R.length := by omega
 have gs : List.getD (List.set ((R.reverse ++ y :: x :: B).map encV) (R.length + 1) (encV y)) R.length .nils = encV y := by
   rw [List.getD_eq_getElem?_getD, List.getElem?_set_ne (by omega), ← List.getD_eq_getElem?_getD]
   rw [← gy, k0]
 have hcf : conf zI (List.getD (List.set ((R.reverse ++ y :: x :: B).map encV) (R.length + 1) (encV y)) R.length .nils) = true := by rw [gs]; rfl
 have hs : (List.set ((R.reverse ++ y :: x :: B).map encV) (R.length + 1) (encV y)).length = N := by rw [List.length_set, hlen]
 iterate 4 refine (asTT (by first | rfl | exact decide_eq_true (by rw [hlen]; omega) | exact decide_eq_true (by omega) | exact decide_eq_true hlen | exact decide_eq_true hs | exact decide_eq_true (by show _ < (List.set _ _ (encV y)).length; rw [hs]; omega))).trans ?_
 refine (asTT rfl).trans ?_
 iterate 4 refine (asTT (by first | rfl | exact decide_eq_true (by rw [hlen]; omega) | exact decide_eq_true (by omega) | exact decide_eq_true hlen | exact decide_eq_true hs | exact decide_eq_true (by show _ < (List.set _ _ (encV y)).length; rw [hs]; omega))).trans ?_
 refine (asTT rfl).trans ?_
 refine (hLess x y _).trans ?_
 refine congrArg (fun z => cbr (ltV x y) z _) ?_
 rw [k1, k0]
 iterate 4 refine (asTT (by first | rfl | exact decide_eq_true (by rw [hlen]; omega) | exact decide_eq_true (by omega) | exact decide_eq_true hlen | exact decide_eq_true hs | exact decide_eq_true (by show _ < (List.set _ _ (encV y)).length; rw [hs]; omega))).trans ?_
 refine (asTT rfl).trans ?_
 iterate 4 refine (asTT (by first | rfl | exact decide_eq_true (by rw [hlen]; omega) | exact decide_eq_true (by omega) | exact decide_eq_true hlen | exact decide_eq_true hs | exact decide_eq_true (by show _ < (List.set _ _ (encV y)).length; rw [hs]; omega))).trans ?_
 refine (asTT rfl).trans ?_
 iterate 4 refine (asTT (by first | rfl | exact decide_eq_true (by rw [hlen]; omega) | exact decide_eq_true (by omega) | exact decide_eq_true hlen | exact decide_eq_true hs | exact decide_eq_true (by show _ < (List.set _ _ (encV y)).length; rw [hs]; omega))).trans ?_
 refine (asTT rfl).trans ?_
 iterate 4 refine (asTT (by first | rfl | exact decide_eq_true (by rw [hlen]; omega) | exact decide_eq_true (by omega) | exact decide_eq_true hlen | exact decide_eq_true hs | exact decide_eq_true (by show _ < (List.set _ _ (encV y)).length; rw [hs]; omega))).trans ?_
 refine (asTT hcf).trans ?_
 have e := setV R y x B
 show L_halve_Split_9_5 _ _ _ _ _ _ _ _ _ _ _ l0 l1 (List.set (List.set ((R.reverse ++ y :: x :: B).map encV) (R.length + 1) (encV y)) R.length (encV x)) _ _ _ _ _ _ = _
 rw [e]
theorem in9z5 (l0 l1 : List PV) (x : Nat) (B : List Nat) (N : Nat) (b c : Int) {a0 a1 a2 a3 a4 a5 a6 a7 a8 x1} (n : Nat) :
   L_halve_Split_9_5 a0 a1 a2 a3 a4 a5 a6 a7 a8 x1 (n + 1) l0 l1 ((x :: B).map encV) N N 0 b c 0 = x1 l0 l1 ((x :: B).map encV) N N 0 b c 0 false := by
 conv => lhs; unfold L_halve_Split_9_5
 dsimp only [lt, Go.Pf.jn]
 rw [cbF (by omega), cbr_false]
theorem in95 (l0 l1 : List PV) {a0 a1 a2 a3 a4 a5 a6 a7 x1} (b c : Int) {N : Nat} (hl : N < 4611686018427387904) {Y : List PV → Prop} (hX : ∀ v j, x1 l0 l1 v N N 0 b c j false = Y v) : ∀ (R : List Nat) (x : Nat) (B : List Nat), R.length + (B.length + 1) = N →
   (∃ n, L_halve_Split_9_5 a0 a1 a2 a3 a4 a5 a6 a7 w_cmp_Less_int x1 n l0 l1 ((R.reverse ++ x :: B).map encV) N N 0 b c (R.length : Int)) = Y (((insV ltV R x).reverse ++ B).map encV)
 | [], x, B, hN => by
   rw [exS3 rfl (R := fun _ => x1 l0 l1 ((x :: B).map encV) N N 0 b c 0 false) (fun n => in9z5 l0 l1 x B N b c n), exC3, hX]
   rfl
 | y :: R, x, B, hN => by
   have e1 : (y :: R).reverse ++ x :: B = R.reverse ++ y :: x :: B := by rw [List.reverse_cons, List.append_assoc]; rfl
   have e2 : (((y :: R).length : Nat) : Int) = (R.length : Int) + 1 := by simp
   rw [List.length_cons] at hN
   rw [e1, e2]
   have ih := in95 (a0 := a0) (a1 := a1) (a2 := a2) (a3 := a3) (a4 := a4) (a5 := a5) (a6 := a6) (a7 := a7) l0 l1 b c hl hX R x (y :: B) (by rw [List.length_cons]; omega)
   cases ht : ltV x y with
   | true =>
     rw [exS3 rfl (R := fun n => L_halve_Split_9_5 a0 a1 a2 a3 a4 a5 a6 a7 w_cmp_Less_int x1 n l0 l1 ((R.reverse ++ x :: y :: B).map encV) N N 0 b c (R.length : Int)) (fun n => by rw [in9s5 l0 l1 R y x B (by omega) hl b c n, ht, cbr_true]), ih]
     rw [show insV ltV (y :: R) x = y :: insV ltV R x by (show (bif ltV x y then _ else _) = _; rw [ht]; rfl), List.reverse_cons, List.append_assoc]
     rfl
   | false =>
     rw [exS3 rfl (R := fun _ => x1 l0 l1 ((R.reverse ++ y :: x :: B).map encV) N N 0 b c ((R.length : Int) + 1) false) (fun n => by rw [in9s5 l0 l1 R y x B (by omega) hl b c n, ht, cbr_false]), exC3, hX]
     rw [show insV ltV (y :: R) x = x :: y :: R by (show (bif ltV x y then _ else _) = _; rw [ht]; rfl), List.reverse_cons, List.reverse_cons, List.append_assoc, List.append_assoc]
     rfl
theorem out85 (l0 l1 : List PV) {a0 a1 a2 a3 a4 a5 a6 a7 x1} {Y : List PV → Prop} {N : Nat} (hN : N < 4611686018427387904) (hX : ∀ v j, x1 l0 l1 v N N 0 (N : Int) j false = Y v) : ∀ (B R : List Nat), R.length + B.length = N →
   (∃ n, L_halve_Split_8_5 a0 a1 a2 a3 a4 a5 a6 a7 w_cmp_Less_int x1 n l0 l1 ((R.reverse ++ B).map encV) N N 0 (N : Int) (R.length : Int)) = Y ((allV ltV R B).reverse.map encV)
 | [], R, hl => by
   have e : ∀ n, L_halve_Split_8_5 a0 a1 a2 a3 a4 a5 a6 a7 w_cmp_Less_int x1 (n + 1) l0 l1 ((R.reverse ++ []).map encV) N N 0 (N : Int) (R.length : Int) = Y ((allV ltV R []).reverse.map encV) := fun n => by
     conv => lhs; unfold L_halve_Split_8_5
     rw [cbF (by simp only [List.length_nil] at hl; omega), hX, List.append_nil]
     rfl
   rw [exS3 rfl (R := fun _ => _) e, exC3]
 | x :: B, R, hl => by
   have hl' : R.length + (B.length + 1) = N := hl
   have ih := out85 (a0 := a0) (a1 := a1) (a2 := a2) (a3 := a3) (a4 := a4) (a5 := a5) (a6 := a6) (a7 := a7) l0 l1 hN hX B (insV ltV R x) (by rw [insV_len]; omega)
   rw [insV_len] at ih
   have w : IntKind.i64.wrap ((R.length : Int) + 1) = (((R.length + 1 : Nat)) : Int) := by rw [wib (by omega) (by omega)]; omega
   have e : ∀ n, L_halve_Split_8_5 a0 a1 a2 a3 a4 a5 a6 a7 w_cmp_Less_int x1 (n + 1) l0 l1 ((R.reverse ++ x :: B).map encV) N N 0 (N : Int) (R.length : Int) = L_halve_Split_8_5 a0 a1 a2 a3 a4 a5 a6 a7 w_cmp_Less_int x1 n l0 l1 (((insV ltV R x).reverse ++ B).map encV) N N 0 (N : Int) ((R.length + 1 : Nat) : Int) := fun n => by
     conv => lhs; unfold L_halve_Split_8_5
     dsimp only [lt]
     rw [cbT (by omega)]
     refine (in95 l0 l1 (N : Int) (R.length : Int) hN (Y := fun v => L_halve_Split_8_5 a0 a1 a2 a3 a4 a5 a6 a7 w_cmp_Less_int x1 n l0 l1 v N N 0 (N : Int) ((R.length + 1 : Nat) : Int)) (fun v j => by rw [w]) R x B hl')
   rw [exS3 rfl (R := fun n => L_halve_Split_8_5 a0 a1 a2 a3 a4 a5 a6 a7 w_cmp_Less_int x1 n l0 l1 (((insV ltV R x).reverse ++ B).map encV) N N 0 (N : Int) ((R.length + 1 : Nat) : Int)) e, ih]
   rfl
theorem sort75' (l0 l1 : List PV) {a0 a1 a2 a3 a4 a5 a6 a7 X} (x : Nat) (B : List Nat) (hN : B.length + 1 ≤ 12) (h : Int) (b b' : Bool) :
   (∃ n, L_halve_Split_7_5 a0 a1 a2 a3 a4 a5 a6 a7 w_cmp_Less_int X n l0 l1 ((x :: B).map encV) (B.length + 1) (B.length + 1) 0 ((B.length + 1 : Nat) : Int) h b b') = X l0 l1 ((allV ltV [x] B).reverse.map encV) := by
 have e : ∀ n, L_halve_Split_7_5 a0 a1 a2 a3 a4 a5 a6 a7 w_cmp_Less_int X (n + 1) l0 l1 ((x :: B).map encV) (B.length + 1) (B.length + 1) 0 ((B.length + 1 : Nat) : Int) h b b' = X l0 l1 ((allV ltV [x] B).reverse.map encV) := fun n => by
   conv => lhs; unfold L_halve_Split_7_5
   dsimp only [lt]
   rw [wib (by omega) (by omega), cbT (by omega), wib (by omega) (by omega)]
   exact out85 l0 l1 (Y := fun v => X l0 l1 v) (N := B.length + 1) (by omega) (fun v j => rfl) B [x] (by simp only [List.length_cons, List.length_nil]; omega)
 rw [exS3 rfl (R := fun _ => _) e, exC3]
end Go.Pf.Vc
namespace Go.Pf.Vc
open Go Go.Pf
set_option maxRecDepth 100000
set_option maxHeartbeats 1000000
theorem getP {α : Type} (f : α → PV) (P : List α) (x : α) (B : List α) {k : Nat} (h : k = P.length) : List.getD ((P ++ x :: B).map f) k .nils = f x := by
 subst h
 rw [List.getD_eq_getElem?_getD, List.getElem?_map, List.getElem?_append_right (Nat.le_refl _), Nat.sub_self]
 rfl
theorem lr3 {a0 a1 a2 a3 a4 a5 a6 a7 a8} (C G : List PV) (i3 i4 : Int) {m N : Nat} (hN : N ≤ 100) {x3} (L : List Nat) : ∀ (Q P : List (Nat × Rat)) (R : List Nat), P.length + Q.length = N → m ≤ P.length → R.length ≤ P.length → L.length ≤ 100 →
   (∃ n, L_halve_Split_6_3 a0 a1 a2 a3 a4 a5 a6 a7 a8 x3 n ((P ++ Q).map encH) (L.map encV) (R.map encV) C G i3 i4 (m : Int) N N N N (N : Int) (P.length : Int)) =
   x3 ((P ++ Q).map encH) (L.map encV) ((R ++ Q.map Prod.fst).map encV) C G i3 i4 (m : Int) N N N N (N : Int) (N : Int) false
 | [], P, R, h, hm, hR, hL => by
   rw [List.length_nil] at h
   have e : ∀ n, L_halve_Split_6_3 a0 a1 a2 a3 a4 a5 a6 a7 a8 x3 (n + 1) ((P ++ []).map encH) (L.map encV) (R.map encV) C G i3 i4 (m : Int) N N N N (N : Int) (P.length : Int) = x3 ((P ++ []).map encH) (L.map encV) ((R ++ ([] : List (Nat × Rat)).map Prod.fst).map encV) C G i3 i4 (m : Int) N N N N (N : Int) (N : Int) false := fun n => by
     conv => lhs; unfold L_halve_Split_6_3
     rw [cbF (by omega), show (P.length : Int) = (N : Int) by omega]
     simp only [List.map_nil, List.append_nil]
   rw [exS3 rfl (R := fun _ => _) e, exC3]
 | h :: Q, P, R, hl, hm, hR, hL => by
   rw [List.length_cons] at hl
   have ih := lr3 (a0 := a0) (a1 := a1) (a2 := a2) (a3 := a3) (a4 := a4) (a5 := a5) (a6 := a6) (a7 := a7) (a8 := a8) C G i3 i4 (m := m) hN (x3 := x3) L Q (P ++ [h]) (R ++ [h.1]) (by rw [List.length_append, List.length_singleton]; omega) (by rw [List.length_append, List.length_singleton]; omega) (by rw [List.length_append, List.length_append, List.length_singleton, List.length_singleton]; omega) hL
   rw [List.append_assoc, List.append_assoc, List.length_append, List.length_singleton] at ih
   have hlen : ((P ++ h :: Q).map encH).length = N := by rw [List.length_map, List.length_append, List.length_cons]; omega
   have g : List.getD ((P ++ h :: Q).map encH) (0 + (P.length : Int).toNat) .nils = encH h := getP encH P h Q (by omega)
   have w : IntKind.i64.wrap ((P.length : Int) + 1) = (((P.length + 1 : Nat)) : Int) := by rw [wib (by omega) (by omega)]; omega
   have rl : (R.map encV).length = R.length := List.length_map ..
   have e : ∀ n, L_halve_Split_6_3 a0 a1 a2 a3 a4 a5 a6 a7 a8 x3 (n + 1) ((P ++ h :: Q).map encH) (L.map encV) (R.map encV) C G i3 i4 (m : Int) N N N N (N : Int) (P.length : Int) = L_halve_Split_6_3 a0 a1 a2 a3 a4 a5 a6 a7 a8 x3 n ((P ++ h :: Q).map encH) (L.map encV) ((R ++ [h.1]).map encV) C G i3 i4 (m : Int) N N N N (N : Int) ((P.length + 1 : Nat) : Int) := fun n => by
     conv => lhs; unfold L_halve_Split_6_3
     dsimp only [lt, Go.Pf.jn]
     rw [cbT (by omega), asT (by omega), asT (by omega), asT hlen, asT (by rw [hlen]; omega), g]
     refine (asTT rfl).trans ?_
     rw [cbF (by omega), rl]
     refine (asTT (by simp)).trans ?_
     refine (asTT (by simp)).trans ?_
     refine (asTT (by simp)).trans ?_
     refine (asTT (by simp)).trans ?_
     refine (asTT (decide_eq_true (by unfold room; omega))).trans ?_
     rw [w]
     refine (asTT (by simp)).trans ?_
     rw [show (R ++ [h.1]).map encV = R.map encV ++ [encV h.1] from List.map_append ..]
     rfl
   rw [exS3 rfl (R := fun n => L_halve_Split_6_3 a0 a1 a2 a3 a4 a5 a6 a7 a8 x3 n ((P ++ h :: Q).map encH) (L.map encV) ((R ++ [h.1]).map encV) C G i3 i4 (m : Int) N N N N (N : Int) ((P.length + 1 : Nat) : Int)) e]
   exact ih
theorem lr2 {a0 a1 a2 a3 a4 a5 a6 a7 a8} (C G : List PV) (i3 i4 : Int) {m N : Nat} (hN : N ≤ 100) (hmN : m < N) {x2 x3} : ∀ (Q P : List (Nat × Rat)) (L : List Nat), P.length + Q.length = N → P.length ≤ m → L.length = P.length →
   (∃ n, L_halve_Split_6_2 a0 a1 a2 a3 a4 a5 a6 a7 a8 x2 x3 n ((P ++ Q).map encH) (L.map encV) C G i3 i4 (m : Int) N N N N (N : Int) (P.length : Int)) =
   x3 ((P ++ Q).map encH) ((L ++ (Q.take (m - P.length)).map Prod.fst).map encV) (((Q.drop (m - P.length)).map Prod.fst).map encV) C G i3 i4 (m : Int) N N N N (N : Int) (N : Int) false
 | [], P, L, h, hm, hL => by
   rw [List.length_nil] at h
   omega
 | h :: Q, P, L, hl, hm, hL => by
   rw [List.length_cons] at hl
   have hlen : ((P ++ h :: Q).map encH).length = N := by rw [List.length_map, List.length_append, List.length_cons]; omega
   have g : List.getD ((P ++ h :: Q).map encH) (0 + (P.length : Int).toNat) .nils = encH h := getP encH P h Q (by omega)
   have w : IntKind.i64.wrap ((P.length : Int) + 1) = (((P.length + 1 : Nat)) : Int) := by rw [wib (by omega) (by omega)]; omega
   have ll : (L.map encV).length = L.length := List.length_map ..
   by_cases hlt : P.length < m
   · have ih := lr2 (a0 := a0) (a1 := a1) (a2 := a2) (a3 := a3) (a4 := a4) (a5 := a5) (a6 := a6) (a7 := a7) (a8 := a8) C G i3 i4 (m := m) hN hmN (x2 := x2) (x3 := x3) Q (P ++ [h]) (L ++ [h.1]) (by rw [List.length_append, List.length_singleton]; omega) (by rw [List.length_append, List.length_singleton]; omega) (by rw [List.length_append, List.length_append, List.length_singleton, List.length_singleton]; omega)
     rw [List.append_assoc, List.append_assoc, List.length_append, List.length_singleton] at ih
     have e : ∀ n, L_halve_Split_6_2 a0 a1 a2 a3 a4 a5 a6 a7 a8 x2 x3 (n + 1) ((P ++ h :: Q).map encH) (L.map encV) C G i3 i4 (m : Int) N N N N (N : Int) (P.length : Int) = L_halve_Split_6_2 a0 a1 a2 a3 a4 a5 a6 a7 a8 x2 x3 n ((P ++ h :: Q).map encH) ((L ++ [h.1]).map encV) C G i3 i4 (m : Int) N N N N (N : Int) ((P.length + 1 : Nat) : Int) := fun n => by
       conv => lhs; unfold L_halve_Split_6_2
       dsimp only [lt, Go.Pf.jn]
       rw [cbT (by omega), asT (by omega), asT (by omega), asT hlen, asT (by rw [hlen]; omega), g]
       refine (asTT rfl).trans ?_
       rw [cbT (by omega), ll]
       refine (asTT (by simp)).trans ?_
       refine (asTT (by simp)).trans ?_
       refine (asTT (by simp)).trans ?_
       refine (asTT (by simp)).trans ?_
       refine (asTT (decide_eq_true (by unfold room; omega))).trans ?_
       rw [w]
       refine (asTT (by simp)).trans ?_
       rw [show (L ++ [h.1]).map encV = L.map encV ++ [encV h.1] from List.map_append ..]
       rfl
     rw [exS3 rfl (R := fun n => L_halve_Split_6_2 a0 a1 a2 a3 a4 a5 a6 a7 a8 x2 x3 n ((P ++ h :: Q).map encH) ((L ++ [h.1]).map encV) C G i3 i4 (m : Int) N N N N (N : Int) ((P.length + 1 : Nat) : Int)) e]
     refine Eq.trans ih ?_
     rw [show m - P.length = (m - (P.length + 1)) + 1 by omega, List.take_succ_cons, List.drop_succ_cons]
     rfl
   · have em : m = P.length := by omega
     have e : ∀ n, L_halve_Split_6_2 a0 a1 a2 a3 a4 a5 a6 a7 a8 x2 x3 (n + 1) ((P ++ h :: Q).map encH) (L.map encV) C G i3 i4 (m : Int) N N N N (N : Int) (P.length : Int) = L_halve_Split_6_3 a0 a1 a2 a3 a4 a5 a6 a7 a8 x3 n (((P ++ [h]) ++ Q).map encH) (L.map encV) ([h.1].map encV) C G i3 i4 (m : Int) N N N N (N : Int) (((P ++ [h]).length : Nat) : Int) := fun n => by
       conv => lhs; unfold L_halve_Split_6_2
       dsimp only [lt, Go.Pf.jn]
       rw [cbT (by omega), asT (by omega), asT (by omega), asT hlen, asT (by rw [hlen]; omega), g]
       refine (asTT rfl).trans ?_
       rw [cbF (by omega), w]
       refine (asTT (by simp)).trans ?_
       rw [List.append_assoc, List.length_append]
       rfl
     rw [exS3 rfl (R := fun n => L_halve_Split_6_3 a0 a1 a2 a3 a4 a5 a6 a7 a8 x3 n (((P ++ [h]) ++ Q).map encH) (L.map encV) ([h.1].map encV) C G i3 i4 (m : Int) N N N N (N : Int) (((P ++ [h]).length : Nat) : Int)) e]
     rw [lr3 C G i3 i4 (m := m) hN L Q (P ++ [h]) [h.1] (by rw [List.length_append, List.length_singleton]; omega) (by rw [List.length_append]; omega) (by rw [List.length_append, List.length_singleton]; exact Nat.le_add_left _ _) (by omega), List.append_assoc, show m - P.length = 0 by omega, List.take_zero, List.drop_zero, List.map_nil, List.append_nil]
     rfl
theorem lr1 {a0 a1 a2 a3 a4 a5 a6 a7 a8} (C G : List PV) (i3 i4 : Int) {m N : Nat} (hN : N ≤ 100) (hm : 1 ≤ m) (hmN : m < N) {x1 x2 x3 x4 x5} (H : List (Nat × Rat)) (hH : H.length = N) :
   (∃ n, L_halve_Split_6_1 a0 a1 a2 a3 a4 a5 a6 a7 a8 x1 x2 x3 x4 x5 n (H.map encH) C G i3 i4 (m : Int) N N N N (N : Int) 0) =
   x3 (H.map encH) (((H.take m).map Prod.fst).map encV) (((H.drop m).map Prod.fst).map encV) C G i3 i4 (m : Int) N N N N (N : Int) (N : Int) false := by
 obtain ⟨h, Q, rfl⟩ : ∃ h Q, H = h :: Q := by
   cases H with
   | nil => simp at hH; omega
   | cons h Q => exact ⟨h, Q, rfl⟩
 have hl : Q.length + 1 = N := hH
 have hlen : ((h :: Q).map encH).length = N := by rw [List.length_map]; exact hH
 have e : ∀ n, L_halve_Split_6_1 a0 a1 a2 a3 a4 a5 a6 a7 a8 x1 x2 x3 x4 x5 (n + 1) ((h :: Q).map encH) C G i3 i4 (m : Int) N N N N (N : Int) 0 = L_halve_Split_6_2 a0 a1 a2 a3 a4 a5 a6 a7 a8 x2 x3 n (([h] ++ Q).map encH) ([h.1].map encV) C G i3 i4 (m : Int) N N N N (N : Int) (([h].length : Nat) : Int) := fun n => by
   conv => lhs; unfold L_halve_Split_6_1
   dsimp only [lt, Go.Pf.jn]
   rw [cbT (by omega), asT (by omega), asT (by omega), asT hlen, asT (by rw [hlen]; omega)]
   refine (asTT rfl).trans ?_
   rw [cbT (by omega)]
   refine (asTT (by simp)).trans ?_
   rfl
 rw [exS3 rfl (R := fun n => L_halve_Split_6_2 a0 a1 a2 a3 a4 a5 a6 a7 a8 x2 x3 n (([h] ++ Q).map encH) ([h.1].map encV) C G i3 i4 (m : Int) N N N N (N : Int) (([h].length : Nat) : Int)) e]
 rw [lr2 C G i3 i4 (m := m) hN hmN Q [h] [h.1] (by rw [List.length_singleton]; omega) (by rw [List.length_singleton]; omega) rfl]
 rw [show m = (m - 1) + 1 by omega, List.take_succ_cons, List.drop_succ_cons]
 rfl
end Go.Pf.Vc
namespace Go.Pf.Vc
open Go Go.Pf
set_option maxRecDepth 100000
set_option maxHeartbeats 1000000
theorem mk11 {l : List Ck} {a0 a1 a2 a3 a4 a6 a7 a8} {q0 q1 p0 p1 r0 r1 z1 z2 m : Int} {M N : Nat} (hN : N ≤ 100) (f : Nat → Rat) (g : Nat → List Qy) (g2 : ∀ a, (g a).length ≤ 2) {x2 x3} : ∀ (Q P : List Nat) (H : List (Nat × Rat)) (lg : List Qy), P.length + Q.length = N → H.length = P.length → lg.length + 2 * Q.length ≤ M → (∀ a ∈ Q, a < 1000) →
   (∀ a ∈ Q, ∀ lg : List Qy, lg.length + 2 ≤ M → ∀ K, w_halve_mark (cks l) (logs lg) a q0 q1 p0 p1 r0 r1 K = K (cks l) (logs (lg ++ g a)) (f a).num (f a).den 0) →
   (∃ n, L_halve_Split_1_1 a0 a1 a2 a3 a4 w_halve_mark a6 a7 a8 x2 x3 n (H.map encH) (cks l) (logs lg) q0 q1 p0 p1 z1 z2 m r0 r1 ((P ++ Q).map encV) (N : Int) (P.length : Int)) =
   x2 ((H ++ Q.map fun a => (a, f a)).map encH) (cks l) (logs (lg ++ Q.flatMap g)) q0 q1 p0 p1 z1 z2 m r0 r1 ((P ++ Q).map encV) (N : Int) (N : Int) false
 | [], P, H, lg, h, hH, hL, hA, hM => by
   rw [List.length_nil] at h
   have e : ∀ n, L_halve_Split_1_1 a0 a1 a2 a3 a4 w_halve_mark a6 a7 a8 x2 x3 (n + 1) (H.map encH) (cks l) (logs lg) q0 q1 p0 p1 z1 z2 m r0 r1 ((P ++ []).map encV) (N : Int) (P.length : Int) = x2 ((H ++ ([] : List Nat).map fun a => (a, f a)).map encH) (cks l) (logs (lg ++ ([] : List Nat).flatMap g)) q0 q1 p0 p1 z1 z2 m r0 r1 ((P ++ []).map encV) (N : Int) (N : Int) false := fun n => by
     conv => lhs; unfold L_halve_Split_1_1
     rw [cbF (by omega), show (P.length : Int) = (N : Int) by omega]
     simp only [List.map_nil, List.append_nil, List.flatMap_nil]
   rw [exS3 rfl (R := fun _ => _) e, exC3]
 | a :: Q, P, H, lg, hl, hH, hL, hA, hM => by
   rw [List.length_cons] at hl hL
   have ga := g2 a
   have ih := mk11 (a0 := a0) (a1 := a1) (a2 := a2) (a3 := a3) (a4 := a4) (a6 := a6) (a7 := a7) (a8 := a8) (q0 := q0) (q1 := q1) (p0 := p0) (p1 := p1) (r0 := r0) (r1 := r1) (z1 := z1) (z2 := z2) (m := m) (M := M) hN f g g2 (x2 := x2) (x3 := x3) Q (P ++ [a]) (H ++ [(a, f a)]) (lg ++ g a) (by rw [List.length_append, List.length_singleton]; omega) (by rw [List.length_append, List.length_append, List.length_singleton, List.length_singleton]; omega) (by rw [List.length_append]; omega) (fun b hb => hA b (List.mem_cons_of_mem _ hb)) (fun b hb => hM b (List.mem_cons_of_mem _ hb))
   rw [List.append_assoc, List.append_assoc, List.append_assoc, List.length_append, List.length_singleton] at ih
   have gt : List.getD ((P ++ a :: Q).map encV) (P.length : Int).toNat .nils = encV a := getP encV P a Q (by omega)
   have w : IntKind.i64.wrap ((P.length : Int) + 1) = (((P.length + 1 : Nat)) : Int) := by rw [wib (by omega) (by omega)]; omega
   have hlen : ((P ++ a :: Q).map encV).length = N := by rw [List.length_map, List.length_append, List.length_cons]; omega
   have lh : (H.map encH).length = H.length := List.length_map ..
   have e : ∀ n, L_halve_Split_1_1 a0 a1 a2 a3 a4 w_halve_mark a6 a7 a8 x2 x3 (n + 1) (H.map encH) (cks l) (logs lg) q0 q1 p0 p1 z1 z2 m r0 r1 ((P ++ a :: Q).map encV) (N : Int) (P.length : Int) = L_halve_Split_1_1 a0 a1 a2 a3 a4 w_halve_mark a6 a7 a8 x2 x3 n ((H ++ [(a, f a)]).map encH) (cks l) (logs (lg ++ g a)) q0 q1 p0 p1 z1 z2 m r0 r1 ((P ++ a :: Q).map encV) (N : Int) ((P.length + 1 : Nat) : Int) := fun n => by
     conv => lhs; unfold L_halve_Split_1_1
     dsimp only [lt, Go.Pf.jn]
     rw [cbT (by omega), asT (by omega), asT (by rw [hlen]; omega), gt]
     refine (asTT rfl).trans ?_
     refine (hM a (List.mem_cons_self ..) lg (by omega) _).trans ?_
     rw [cnF rfl, lh]
     refine (asTT (by simp)).trans ?_
     refine (asTT (by simp)).trans ?_
     refine (asTT (by simp)).trans ?_
     refine (asTT (by simp)).trans ?_
     refine (asTT (decide_eq_true (by unfold room; omega))).trans ?_
     rw [w]
     refine (asTT (by simp)).trans ?_
     rw [show (H ++ [(a, f a)]).map encH = H.map encH ++ [encH (a, f a)] from List.map_append ..]
     rfl
   rw [exS3 rfl (R := fun n => L_halve_Split_1_1 a0 a1 a2 a3 a4 w_halve_mark a6 a7 a8 x2 x3 n ((H ++ [(a, f a)]).map encH) (cks l) (logs (lg ++ g a)) q0 q1 p0 p1 z1 z2 m r0 r1 ((P ++ a :: Q).map encV) (N : Int) ((P.length + 1 : Nat) : Int)) e]
   exact ih
theorem mk10 {l : List Ck} {a0 a1 a2 a3 a4 a6 a7 a8} {q0 q1 p0 p1 r0 r1 z1 z2 m : Int} {M N : Nat} (hN : N ≤ 100) (f : Nat → Rat) (g : Nat → List Qy) (g2 : ∀ a, (g a).length ≤ 2) {x0 x1 x2 x3} (A : List Nat) (lg : List Qy) (hA : A.length = N) (h1 : 1 ≤ N) (hL : lg.length + 2 * N ≤ M) (hs : ∀ a ∈ A, a < 1000)
   (hM : ∀ a ∈ A, ∀ lg : List Qy, lg.length + 2 ≤ M → ∀ K, w_halve_mark (cks l) (logs lg) a q0 q1 p0 p1 r0 r1 K = K (cks l) (logs (lg ++ g a)) (f a).num (f a).den 0) :
   (∃ n, L_halve_Split_1_0 a0 a1 a2 a3 a4 w_halve_mark a6 a7 a8 x0 x1 x2 x3 n (cks l) (logs lg) q0 q1 p0 p1 z1 z2 m r0 r1 (A.map encV) (N : Int) 0) =
   x2 ((A.map fun a => (a, f a)).map encH) (cks l) (logs (lg ++ A.flatMap g)) q0 q1 p0 p1 z1 z2 m r0 r1 (A.map encV) (N : Int) (N : Int) false := by
 obtain ⟨a, Q, rfl⟩ : ∃ a Q, A = a :: Q := by
   cases A with
   | nil => simp at hA; omega
   | cons a Q => exact ⟨a, Q, rfl⟩
 have ga := g2 a
 rw [List.length_cons] at hA
 have ih := mk11 (a0 := a0) (a1 := a1) (a2 := a2) (a3 := a3) (a4 := a4) (a6 := a6) (a7 := a7) (a8 := a8) (q0 := q0) (q1 := q1) (p0 := p0) (p1 := p1) (r0 := r0) (r1 := r1) (z1 := z1) (z2 := z2) (m := m) (M := M) hN f g g2 (x2 := x2) (x3 := x3) Q [a] [(a, f a)] (lg ++ g a) (by rw [List.length_singleton]; omega) rfl (by rw [List.length_append]; omega) (fun b hb => hs b (List.mem_cons_of_mem _ hb)) (fun b hb => hM b (List.mem_cons_of_mem _ hb))
 rw [List.append_assoc] at ih
 have hlen : ((a :: Q).map encV).length = N := by rw [List.length_map, List.length_cons]; omega
 have e : ∀ n, L_halve_Split_1_0 a0 a1 a2 a3 a4 w_halve_mark a6 a7 a8 x0 x1 x2 x3 (n + 1) (cks l) (logs lg) q0 q1 p0 p1 z1 z2 m r0 r1 ((a :: Q).map encV) (N : Int) 0 = L_halve_Split_1_1 a0 a1 a2 a3 a4 w_halve_mark a6 a7 a8 x2 x3 n ([(a, f a)].map encH) (cks l) (logs (lg ++ g a)) q0 q1 p0 p1 z1 z2 m r0 r1 (([a] ++ Q).map encV) (N : Int) (([a].length : Nat) : Int) := fun n => by
   conv => lhs; unfold L_halve_Split_1_0
   dsimp only [lt, Go.Pf.jn]
   rw [cbT (by omega), asT (by omega), asT (by rw [hlen]; omega)]
   refine (asTT rfl).trans ?_
   refine (hM a (List.mem_cons_self ..) lg (by omega) _).trans ?_
   rw [cnF rfl]
   refine (asTT (by simp)).trans ?_
   rfl
 rw [exS3 rfl (R := fun n => L_halve_Split_1_1 a0 a1 a2 a3 a4 w_halve_mark a6 a7 a8 x2 x3 n ([(a, f a)].map encH) (cks l) (logs (lg ++ g a)) q0 q1 p0 p1 z1 z2 m r0 r1 (([a] ++ Q).map encV) (N : Int) (([a].length : Nat) : Int)) e]
 exact ih
end Go.Pf.Vc
namespace Go.Pf.Vc
open Go Go.Pf
set_option maxRecDepth 100000
set_option maxHeartbeats 1000000
def sortW {α : Type} (lt : α → α → Bool) : List α → List α
 | [] => []
 | x :: B => (allV lt [x] B).reverse
theorem allV_len {α : Type} (lt : α → α → Bool) : ∀ B R : List α, (allV lt R B).length = R.length + B.length
 | [], R => rfl
 | x :: B, R => by
   show (allV lt (insV lt R x) B).length = _
   rw [allV_len lt B, insV_len, List.length_cons]
   omega
theorem allV_mem {α : Type} (lt : α → α → Bool) {z : α} : ∀ B R : List α, z ∈ allV lt R B ↔ z ∈ R ∨ z ∈ B
 | [], R => by simp [allV]
 | x :: B, R => by
   show z ∈ allV lt (insV lt R x) B ↔ _
   rw [allV_mem lt B, insV_mem, List.mem_cons]
   exact ⟨fun h => by rcases h with (h | h) | h <;> simp [h], fun h => by rcases h with h | h | h <;> simp [h]⟩
theorem sortW_len {α : Type} (lt : α → α → Bool) (l : List α) : (sortW lt l).length = l.length := by
 cases l with
 | nil => rfl
 | cons x B => show (allV lt [x] B).reverse.length = _; rw [List.length_reverse, allV_len]; simp only [List.length_cons, List.length_nil]; omega
theorem sortW_mem {α : Type} (lt : α → α → Bool) {z : α} (l : List α) : z ∈ sortW lt l ↔ z ∈ l := by
 cases l with
 | nil => exact Iff.rfl
 | cons x B => show z ∈ (allV lt [x] B).reverse ↔ _; rw [List.mem_reverse, allV_mem, List.mem_singleton, List.mem_cons]
theorem lenH {p : Int} (hp : U64 p) (K : Int → Prop) : w_m_Len p K = K (blen p.toNat : Int) := det_m_Len64 _ _ (fun _ h => Len64_of hp h) K
theorem getE {A : List Nat} {k : Nat} (h : k < A.length) : List.getD (A.map encV) k .nils = encV (A.getD k 0) := by
 rw [List.getD_eq_getElem?_getD, List.getElem?_map, List.getD_eq_getElem?_getD, List.getElem?_eq_getElem h]
 rfl
theorem chk0 {a0 a1 a2 a3 a4 a5 a6 a7 a8 x0} (C G : List PV) {q0 q1 p0 p1 z1 z2 : Int} (A : List Nat) (hN : A.length ≤ 100) (hs : ∀ i, i + 1 < A.length → A.getD i 0 < A.getD (i + 1) 0) : ∀ (d i : Nat), i + d = A.length → 1 ≤ i →
   (∃ n, L_halve_Split_0_0 a0 a1 a2 a3 a4 a5 a6 a7 a8 x0 n (A.map encV) C G q0 q1 p0 p1 z1 z2 true (i : Int)) = x0 (A.map encV) C G q0 q1 p0 p1 z1 z2 true (A.length : Int) false
 | 0, i, h, h1 => by
   have e : ∀ n, L_halve_Split_0_0 a0 a1 a2 a3 a4 a5 a6 a7 a8 x0 (n + 1) (A.map encV) C G q0 q1 p0 p1 z1 z2 true (i : Int) = x0 (A.map encV) C G q0 q1 p0 p1 z1 z2 true (A.length : Int) false := fun n => by
     conv => lhs; unfold L_halve_Split_0_0
     rw [cbF (by rw [List.length_map]; omega), show (i : Int) = (A.length : Int) by omega]
   rw [exS3 rfl (R := fun _ => _) e, exC3]
 | d + 1, i, h, h1 => by
   have ih := chk0 (a0 := a0) (a1 := a1) (a2 := a2) (a3 := a3) (a4 := a4) (a5 := a5) (a6 := a6) (a7 := a7) (a8 := a8) (x0 := x0) C G (q0 := q0) (q1 := q1) (p0 := p0) (p1 := p1) (z1 := z1) (z2 := z2) A hN hs d (i + 1) (by omega) (by omega)
   have w1 : IntKind.i64.wrap ((i : Int) - 1) = ((i - 1 : Nat) : Int) := by rw [wib (by omega) (by omega)]; omega
   have w2 : IntKind.i64.wrap ((i : Int) + 1) = ((i + 1 : Nat) : Int) := by rw [wib (by omega) (by omega)]; omega
   have hlt := hs (i - 1) (by omega)
   rw [show i - 1 + 1 = i by omega] at hlt
   have e : ∀ n, L_halve_Split_0_0 a0 a1 a2 a3 a4 a5 a6 a7 a8 x0 (n + 1) (A.map encV) C G q0 q1 p0 p1 z1 z2 true (i : Int) = L_halve_Split_0_0 a0 a1 a2 a3 a4 a5 a6 a7 a8 x0 n (A.map encV) C G q0 q1 p0 p1 z1 z2 true ((i + 1 : Nat) : Int) := fun n => by
     conv => lhs; unfold L_halve_Split_0_0
     dsimp only [lt, Go.Pf.jn]
     rw [cbT (by rw [List.length_map]; omega), cbr_true, w1, asT (by omega), asT (by rw [List.length_map]; omega), Int.toNat_natCast, getE (by omega)]
     refine (asTT rfl).trans ?_
     rw [asT (by omega), asT (by rw [List.length_map]; omega), Int.toNat_natCast, getE (by omega)]
     refine (asTT rfl).trans ?_
     rw [w2, show decide (intOfV (encV (A.getD (i - 1) 0)) < intOfV (encV (A.getD i 0))) = true from decide_eq_true (by show ((A.getD (i - 1) 0 : Nat) : Int) < ((A.getD i 0 : Nat) : Int); omega)]
   rw [exS3 rfl (R := fun n => L_halve_Split_0_0 a0 a1 a2 a3 a4 a5 a6 a7 a8 x0 n (A.map encV) C G q0 q1 p0 p1 z1 z2 true ((i + 1 : Nat) : Int)) e]
   exact ih
end Go.Pf.Vc
namespace Go.Pf.Vc
open Go Go.Pf
set_option maxRecDepth 100000
set_option maxHeartbeats 1000000
theorem l21H {a0 a1 a2 a3 a4 a5 a6 a7 a8 x1} (v : List PV) {N : Nat} (h : N < 20) : (∃ n, L_halve_Split_2_1 a0 a1 a2 a3 a4 a5 a6 a7 a8 x1 n v (N : Int) 20 0 20) = x1 v (N : Int) 20 0 20 false := by
 rw [exS3 rfl (R := fun _ => x1 v (N : Int) 20 0 20 false) (fun n => by unfold L_halve_Split_2_1; exact cbF (by omega)), exC3]
theorem l51H {a0 a1 a2 a3 a4 a5 a6 a7 a8 x1} (v : List PV) {N : Nat} (h : N < 20) : (∃ n, L_halve_Split_5_1 a0 a1 a2 a3 a4 a5 a6 a7 a8 x1 n v N N (N : Int) 20) = x1 v N N (N : Int) 20 false := by
 rw [exS3 rfl (R := fun _ => x1 v N N (N : Int) 20 false) (fun n => by unfold L_halve_Split_5_1; exact cbF (by omega)), exC3]
theorem sort3 {a0 a1 a2 a3 a4 a5 a6 a8 x1} {Y : List PV → Prop} (H : List (Nat × Rat)) {N : Nat} (hN : N = H.length) (h1 : 1 ≤ N) (h2 : N ≤ 100) (hX : ∀ v j, x1 v 0 (N : Int) j false = Y v) (hs : ∀ y ∈ H, small y.2) :
   (∃ n, L_halve_Split_3_1 a0 a1 a2 a3 a4 a5 a6 w_halve_Split_1 a8 x1 n (H.map encH) 0 (N : Int) 1) = Y ((sortW ltH H).map encH) := by
 subst hN
 obtain ⟨x, B, rfl⟩ : ∃ x B, H = x :: B := by
   cases H with
   | nil => simp at h1
   | cons x B => exact ⟨x, B, rfl⟩
 exact out3 (N := (x :: B).length) (by omega) hX B [x] (by simp only [List.length_cons, List.length_nil]; omega) (fun y hy => hs y (by simp only [List.mem_singleton] at hy; rw [hy]; exact List.mem_cons_self ..)) (fun y hy => hs y (List.mem_cons_of_mem _ hy))
theorem sort74 (l0 l2 : List PV) {a0 a1 a2 a3 a4 a5 a6 a7 X} (L : List Nat) (h1 : 1 ≤ L.length) (h2 : L.length ≤ 12) (h : Int) (b b' : Bool) {M : Nat} (hM : M = L.length) :
   (∃ n, L_halve_Split_7_4 a0 a1 a2 a3 a4 a5 a6 a7 w_cmp_Less_int X n l0 (L.map encV) l2 M M 0 (M : Int) h b b') = X l0 ((sortW ltV L).map encV) l2 := by
 subst hM
 obtain ⟨x, B, rfl⟩ : ∃ x B, L = x :: B := by
   cases L with
   | nil => simp at h1
   | cons x B => exact ⟨x, B, rfl⟩
 exact sort74' l0 l2 x B h2 h b b'
theorem sort75 (l0 l1 : List PV) {a0 a1 a2 a3 a4 a5 a6 a7 X} (L : List Nat) (h1 : 1 ≤ L.length) (h2 : L.length ≤ 12) (h : Int) (b b' : Bool) {M : Nat} (hM : M = L.length) :
   (∃ n, L_halve_Split_7_5 a0 a1 a2 a3 a4 a5 a6 a7 w_cmp_Less_int X n l0 l1 (L.map encV) M M 0 (M : Int) h b b') = X l0 l1 ((sortW ltV L).map encV) := by
 subst hM
 obtain ⟨x, B, rfl⟩ : ∃ x B, L = x :: B := by
   cases L with
   | nil => simp at h1
   | cons x B => exact ⟨x, B, rfl⟩
 exact sort75' l0 l1 x B h2 h b b'
def partR (A : List Nat) : Rat := (((A.length / 2 : Nat) : Int) : Rat) / ((A.length : Int) : Rat)
def hsS (A : List Nat) (f : Nat → Rat) : List (Nat × Rat) := sortW ltH (A.map fun a => (a, f a))
def lftS (A : List Nat) (f : Nat → Rat) : List Nat := sortW ltV (((hsS A f).take (A.length / 2)).map Prod.fst)
def rgtS (A : List Nat) (f : Nat → Rat) : List Nat := sortW ltV (((hsS A f).drop (A.length / 2)).map Prod.fst)
def cutH (A : List Nat) (f : Nat → Rat) : Rat := ((hsS A f).getD (A.length / 2 - 1) (0, 0)).2
theorem split_ok {l : List Ck} (hd : DK l) (A : List Nat) (h2 : 2 ≤ A.length) (h12 : A.length ≤ 12) (hs : ∀ i, i + 1 < A.length → A.getD i 0 < A.getD (i + 1) 0) (hA : ∀ a ∈ A, a < l.length) {q p : Rat} (sq : small q) (sp : small p) (q0 : 0 ≤ q) (qp : q < p) (p1 : p ≤ lenR l) (sr : small (partR A))
   (f : Nat → Rat) (g : Nat → List Qy) (g2 : ∀ a, (g a).length ≤ 2) (sf : ∀ a ∈ A, small (f a)) {lg : List Qy} {M : Nat} (hm : lg.length + 2 * A.length ≤ M) (hM2 : M ≤ 2000)
   (hM : ∀ a ∈ A, ∀ lg : List Qy, lg.length + 2 ≤ M → ∀ K, w_halve_mark (cks l) (logs lg) a q.num q.den p.num p.den (partR A).num (partR A).den K = K (cks l) (logs (lg ++ g a)) (f a).num (f a).den 0) (K) :
   w_halve_Split (cks l) (logs lg) (A.map encV) q.num q.den p.num p.den K = K (cks l) (logs (lg ++ A.flatMap g)) (cutH A f).num (cutH A f).den ((lftS A f).map encV) ((rgtS A f).map encV) 0 := by
 have n6 := hd.n6
 have la : (A.map encV).length = A.length := List.length_map ..
 have hl0 : 0 < l.length := Nat.lt_of_le_of_lt (Nat.zero_le _) (hA (A.getD 0 0) (by rw [List.getD_eq_getElem?_getD, List.getElem?_eq_getElem (show 0 < A.length by omega)]; exact List.getElem_mem ..))
 have hlast : A.getD (A.length - 1) 0 < l.length := hA _ (by rw [List.getD_eq_getElem?_getD, List.getElem?_eq_getElem (show A.length - 1 < A.length by omega)]; exact List.getElem_mem ..)
 have hlen := (hd.ok 0 hl0).len0
 have hL : lenR l ≤ 1000 := Rat.intCast_le_intCast.2 hlen.2
 have hL0 : 0 ≤ lenR l := Rat.le_trans q0 (Rat.le_trans (Rat.le_of_lt qp) p1)
 have sL : small (lenR l) := sm3 (D := 1) (In.int (by decide) _) ⟨by decide, by decide⟩ (by grind) (by grind)
 have lnum : (lenR l).num = (l.getD 0 default).len := Rat.num_intCast _
 have lden : (((lenR l).den : Nat) : Int) = 1 := by unfold lenR; rw [Rat.den_intCast]; rfl
 have ord : ∀ K, w_halve_order p.num p.den (l.getD 0 default).len 1 K = K (cmpQ p (lenR l)) := fun K => by
   rw [← lnum, ← lden]
   unfold w_halve_order wv_halve_order
   rw [rCmp_eq sp sL]
 unfold w_halve_Split wv_halve_Split
 dsimp only [lt, Go.Pf.jn]
 rw [aCheck_eq hd.fin (by omega), hd.err (by rw [logs_len]; omega), cnF rfl, la, cbT (by omega), asT (by omega), getE (A := A) (k := 0) (by omega)]
 refine (asTT rfl).trans ?_
 rw [cbT (show intOfV (encV (A.getD 0 0)) ≥ 0 by show ((A.getD 0 0 : Nat) : Int) ≥ 0; omega)]
 rw [show IntKind.i64.wrap ((A.length : Int) - 1) = ((A.length - 1 : Nat) : Int) by rw [wib (by omega) (by omega)]; omega]
 refine (asTT (decide_eq_true (by omega))).trans ?_
 refine (asTT (decide_eq_true (by omega))).trans ?_
 rw [Int.toNat_natCast, getE (by omega)]
 refine (asTT rfl).trans ?_
 rw [cks_len, show decide (intOfV (encV (A.getD (A.length - 1) 0)) < (l.length : Int)) = true from decide_eq_true (by show ((A.getD (A.length - 1) 0 : Nat) : Int) < _; omega)]
 refine (chk0 (cks l) (logs lg) A (by omega) hs (A.length - 1) 1 (by omega) (by omega)).trans ?_
 rw [rCmp_eq sq sp, Bool.not_true, cbr_false, cnF rfl, cmpQ_ge, decide_eq_true qp, Bool.not_true, cbr_false, cbF (by have := Rat.num_nonneg.2 q0; omega), cks_len]
 refine (asTT (decide_eq_true (by omega))).trans ?_
 rw [cks_at hl0, asCk, ck0, hWhole, ord, cmpQ_gt, decide_eq_false (by grind), cbr_false, la]
 rw [show IntKind.i64.wrap (Int.tdiv (A.length : Int) 2) = ((A.length / 2 : Nat) : Int) by rw [Int.tdiv_eq_ediv_of_nonneg (by omega), wib (by omega) (by omega)]; omega]
 have mkR : ∀ K, w_ratio_Make ((A.length / 2 : Nat) : Int) (A.length : Int) K = K (partR A).num (partR A).den 0 := fun K => by
   rw [rMake_eq ⟨by omega, by omega⟩ ⟨by omega, by omega⟩ (by omega)]
   show fitK (partR A) K = _
   rw [fitK_if, if_pos sr]
 rw [mkR]
 refine (mk10 (M := M) (N := A.length) (by omega) f g g2 A lg rfl (by omega) hm (fun a ha => by have := hA a ha; omega) hM).trans ?_
 have lH : ((A.map fun a => (a, f a)).map encH).length = A.length := by simp
 have lS : (hsS A f).length = A.length := by unfold hsS; rw [sortW_len, List.length_map]
 have lL : ((((hsS A f).take (A.length / 2)).map Prod.fst).map encV).length = A.length / 2 := by simp only [List.length_map, List.length_take]; omega
 have lR : ((((hsS A f).drop (A.length / 2)).map Prod.fst).map encV).length = A.length - A.length / 2 := by simp only [List.length_map, List.length_drop]; omega
 refine (asTT (by simp)).trans ?_
 rw [lH]
 refine (l21H _ (by omega)).trans ?_
 refine (asTT (by simp)).trans ?_
 refine (sort3 (A.map fun a => (a, f a)) (N := A.length) (by simp) (by omega) (by omega) (fun v j => rfl) (fun y hy => by
   obtain ⟨a, ha, rfl⟩ := List.mem_map.1 hy
   exact sf a ha)).trans ?_
 rw [lH]
 refine (l51H _ (by omega)).trans ?_
 refine (lr1 (cks l) _ 0 0 (m := A.length / 2) (N := A.length) (by omega) (by omega) (by omega) (hsS A f) lS).trans ?_
 have lLs : ((lftS A f).map encV).length = A.length / 2 := by unfold lftS; rw [List.length_map, sortW_len]; simp only [List.length_map, List.length_take]; omega
 have lRs : ((rgtS A f).map encV).length = A.length - A.length / 2 := by unfold rgtS; rw [List.length_map, sortW_len]; simp only [List.length_map, List.length_drop]; omega
 have lHS : ((hsS A f).map encH).length = A.length := by rw [List.length_map, lS]
 have gH : List.getD ((hsS A f).map encH) (A.length / 2 - 1) .nils = encH ((hsS A f).getD (A.length / 2 - 1) (0, 0)) := by
   have hk : A.length / 2 - 1 < (hsS A f).length := by omega
   rw [List.getD_eq_getElem?_getD, List.getElem?_map, List.getD_eq_getElem?_getD, List.getElem?_eq_getElem hk]
   rfl
 rw [lL, wu64 ⟨by omega, by omega⟩, lenH ⟨by omega, by omega⟩]
 refine (sort74 _ _ (((hsS A f).take (A.length / 2)).map Prod.fst) (by simp only [List.length_map, List.length_take]; omega) (by simp only [List.length_map, List.length_take]; omega) _ _ _ (M := A.length / 2) (by simp only [List.length_map, List.length_take]; omega)).trans ?_
 rw [lR, wu64 ⟨by omega, by omega⟩, lenH ⟨by omega, by omega⟩]
 refine (sort75 _ _ (((hsS A f).drop (A.length / 2)).map Prod.fst) (by simp only [List.length_map, List.length_drop]; omega) (by simp only [List.length_map, List.length_drop]; omega) _ _ _ (M := A.length - A.length / 2) (by simp only [List.length_map, List.length_drop]; omega)).trans ?_
 rw [show IntKind.i64.wrap (((A.length / 2 : Nat) : Int) - 1) = ((A.length / 2 - 1 : Nat) : Int) by rw [wib (by omega) (by omega)]; omega]
 refine (asTT (decide_eq_true (by omega))).trans ?_
 refine (asTT (decide_eq_true (by omega))).trans ?_
 refine (asTT (decide_eq_true lHS)).trans ?_
 refine (asTT (decide_eq_true (by rw [lHS]; omega))).trans ?_
 rw [Int.toNat_natCast, Nat.zero_add, gH]
 refine (asTT rfl).trans ?_
 refine (asTT (decide_eq_true lLs)).trans ?_
 refine (asTT (decide_eq_true (by omega))).trans ?_
 refine (asTT (decide_eq_true lRs)).trans ?_
 refine (asTT (decide_eq_true (by omega))).trans ?_
 have t1 : List.take (A.length / 2) ((lftS A f).map encV) = (lftS A f).map encV := List.take_of_length_le (by omega)
 have t2 : List.take (A.length - A.length / 2) ((rgtS A f).map encV) = (rgtS A f).map encV := List.take_of_length_le (by omega)
 show K _ _ _ _ (List.take (A.length / 2) ((lftS A f).map encV)) (List.take (A.length - A.length / 2) ((rgtS A f).map encV)) 0 = _
 rw [t1, t2]
 rfl
end Go.Pf.Vc
namespace Go.Pf.Vc
open Go Go.Pf
set_option maxRecDepth 100000
set_option maxHeartbeats 1000000
theorem part_ok {A : List Nat} (h2 : 2 ≤ A.length) (h6 : A.length ≤ 6) : small (partR A) ∧ 0 < partR A ∧ partR A < 1 := by
 unfold partR
 obtain h | h | h | h | h : A.length = 2 ∨ A.length = 3 ∨ A.length = 4 ∨ A.length = 5 ∨ A.length = 6 := by omega
 all_goals
   rw [h]
   decide +kernel
theorem part_In {A : List Nat} (h2 : 2 ≤ A.length) {D : Int} (hD : 1 ≤ D) {v : Rat} (h : In D v) : In ((A.length : Int) * D) (v * partR A) := by
 have := (h.mulI ((A.length / 2 : Nat) : Int)).div hD (d := (A.length : Int)) (by omega)
 unfold partR
 rw [Rat.div_def, ← Rat.mul_assoc, ← Rat.div_def]
 exact this
structure HV (l : List Ck) (A : List Nat) (q p : Rat) (D : Int) : Prop where
 len : 1 ≤ A.length ∧ A.length ≤ 6
 srt : A.Pairwise (fun a b => a < b)
 mem : ∀ a ∈ A, a < l.length
 q0 : 0 ≤ q
 p1 : p ≤ lenR l
 D1 : 1 ≤ D ∧ D ≤ 100000000
 iq : In D q
 ip : In D p
 qp : q < p
 pos : ∀ a ∈ A, 0 < vXA l a p - vXA l a q
def fA (l : List Ck) (A : List Nat) (q p : Rat) (a : Nat) : Rat := hAt l a q p (partR A)
def gA (l : List Ck) (A : List Nat) (q p : Rat) (a : Nat) : List Qy := hLog l a q p (partR A)
section
variable {l : List Ck} {A : List Nat} {q p : Rat} {D : Int}
theorem HV.sm (hd : DK l) (h : HV l A q p D) (h2 : 2 ≤ A.length) {a : Nat} (ha : a ∈ A) : small q ∧ small p ∧ small (vXA l a p - vXA l a q) ∧ small ((vXA l a p - vXA l a q) * partR A) ∧ MkV l a q ((vXA l a p - vXA l a q) * partR A) ((A.length : Int) * D) := by
 have D1 := h.D1
 have l6 := h.len.2
 have hal := h.mem a ha
 have h0 : 0 < l.length := by omega
 have hL : lenR l ≤ 1000 := Rat.intCast_le_intCast.2 (hd.ok 0 h0).len0.2
 have k := part_ok h2 h.len.2
 have q0 := h.q0
 have p1 := h.p1
 have qp := Rat.le_of_lt h.qp
 have b : 0 ≤ vXA l a p - vXA l a q ∧ vXA l a p - vXA l a q ≤ totR l a := vS_bound hd hal (s := (q, p)) h.q0 (Rat.le_of_lt h.qp) h.p1
 have t := tot12 hd hal
 have iv : In D (vXA l a p - vXA l a q) := vS_In D1.1 (s := (q, p)) ⟨h.iq, h.ip⟩
 have iw := part_In h2 D1.1 iv
 have w0 : 0 ≤ (vXA l a p - vXA l a q) * partR A := Rat.mul_nonneg b.1 (Rat.le_of_lt k.2.1)
 have w1 : (vXA l a p - vXA l a q) * partR A ≤ vXA l a p - vXA l a q := by
   have := Rat.mul_le_mul_of_nonneg_left (Rat.le_of_lt k.2.2) b.1
   rwa [Rat.mul_one] at this
 have k6 : (A.length : Int) * D ≤ 6 * D := Int.mul_le_mul_of_nonneg_right (by omega) (by omega)
 have k1 : 2 * D ≤ (A.length : Int) * D := Int.mul_le_mul_of_nonneg_right (by omega) (by omega)
 have mp := mono3 hd hal p1
 exact ⟨sm3 h.iq ⟨D1.1, by omega⟩ (by grind) (by grind), sm3 h.ip ⟨D1.1, by omega⟩ (by grind) (by grind), sm3 iv ⟨D1.1, by omega⟩ (by grind) (by grind), sm3 iw ⟨by omega, by omega⟩ (by grind) (by grind), mkV_ok hd hal q0 (Rat.le_trans qp p1) w0 (by grind) (by omega) (by omega) (h.iq.up D1.1 (by omega)) iw⟩
theorem HV.mark (hd : DK l) (h : HV l A q p D) (h2 : 2 ≤ A.length) : ∀ a ∈ A, ∀ lg : List Qy, lg.length + 2 ≤ 2000 → ∀ K, w_halve_mark (cks l) (logs lg) a q.num q.den p.num p.den (partR A).num (partR A).den K = K (cks l) (logs (lg ++ gA l A q p a)) (fA l A q p a).num (fA l A q p a).den 0 := fun a ha lg hm K => by
 obtain ⟨s1, s2, s3, s4, m⟩ := h.sm hd h2 ha
 have k := part_ok h2 h.len.2
 have := h.D1
 exact hmark hd (h.mem a ha) s1 s2 k.1 h.q0 (Rat.le_of_lt h.qp) h.p1 (Rat.le_of_lt k.2.1) ⟨h.D1.1, by omega⟩ h.iq h.ip s3 s4 (Rat.le_of_lt (h.pos a ha)) m (by omega) K
end
end Go.Pf.Vc
namespace Go.Pf.Vc
open Go Go.Pf
set_option maxRecDepth 100000
section
variable {α : Type} {lt : α → α → Bool}
theorem insV_perm (x : α) : ∀ R : List α, (insV lt R x).Perm (x :: R)
 | [] => List.Perm.refl _
 | y :: R => by
   unfold insV
   cases lt x y with
   | true => rw [cond_true]; exact ((insV_perm x R).cons y).trans (List.Perm.swap x y R)
   | false => exact List.Perm.refl _
theorem allV_perm : ∀ B R : List α, (allV lt R B).Perm (R ++ B)
 | [], R => by rw [List.append_nil]; exact List.Perm.refl _
 | x :: B, R => by
   refine (allV_perm B (insV lt R x)).trans ?_
   refine ((insV_perm x R).append_right B).trans ?_
   exact List.perm_middle.symm
theorem sortW_perm (l : List α) : (sortW lt l).Perm l := by
 cases l with
 | nil => exact List.Perm.refl _
 | cons x B => exact (List.reverse_perm _).trans (allV_perm B [x])
theorem insV_srt (h1 : ∀ a b, lt a b = true → lt b a = false) (h2 : ∀ a b c, lt a b = false → lt b c = false → lt a c = false) (x : α) : ∀ R : List α, R.Pairwise (fun a b => lt a b = false) → (insV lt R x).Pairwise (fun a b => lt a b = false)
 | [], _ => by unfold insV; exact List.pairwise_singleton _ _
 | y :: R, h => by
   obtain ⟨k1, k2⟩ := List.pairwise_cons.1 h
   unfold insV
   cases hx : lt x y with
   | true =>
     rw [cond_true]
     refine List.pairwise_cons.2 ⟨fun z hz => ?_, insV_srt h1 h2 x R k2⟩
     rcases (insV_mem lt x).1 hz with rfl | hz
     · exact h1 _ _ hx
     · exact k1 z hz
   | false =>
     rw [cond_false]
     refine List.pairwise_cons.2 ⟨fun z hz => ?_, h⟩
     rcases List.mem_cons.1 hz with rfl | hz
     · exact hx
     · exact h2 _ _ _ hx (k1 z hz)
theorem allV_srt (h1 : ∀ a b, lt a b = true → lt b a = false) (h2 : ∀ a b c, lt a b = false → lt b c = false → lt a c = false) : ∀ B R : List α, R.Pairwise (fun a b => lt a b = false) → (allV lt R B).Pairwise (fun a b => lt a b = false)
 | [], _, h => h
 | x :: B, R, h => allV_srt h1 h2 B (insV lt R x) (insV_srt h1 h2 x R h)
theorem sortW_srt (h1 : ∀ a b, lt a b = true → lt b a = false) (h2 : ∀ a b c, lt a b = false → lt b c = false → lt a c = false) (l : List α) : (sortW lt l).Pairwise (fun a b => lt b a = false) := by
 cases l with
 | nil => exact List.Pairwise.nil
 | cons x B => exact List.pairwise_reverse.2 (allV_srt h1 h2 B [x] (List.pairwise_singleton _ _))
end
theorem ltV_iff {x y : Nat} : ltV x y = true ↔ x < y := by unfold ltV; rw [decide_eq_true_eq]; omega
theorem ltV_not {x y : Nat} : ltV x y = false ↔ y ≤ x := by unfold ltV; rw [decide_eq_false_iff_not]; omega
theorem ltH_iff {x y : Nat × Rat} : ltH x y = true ↔ x.2 < y.2 := by unfold ltH; rw [cmpQ_neg, decide_eq_true_eq]
theorem ltH_not {x y : Nat × Rat} : ltH x y = false ↔ y.2 ≤ x.2 := by unfold ltH; rw [cmpQ_neg, decide_eq_false_iff_not]; exact Rat.not_lt
theorem sortV_le (l : List Nat) : (sortW ltV l).Pairwise (fun a b => a ≤ b) := by
 have := sortW_srt (lt := ltV) (fun a b h => ltV_not.2 (Nat.le_of_lt (ltV_iff.1 h))) (fun a b c h k => ltV_not.2 (Nat.le_trans (ltV_not.1 k) (ltV_not.1 h))) l
 exact this.imp (S := fun a b => a ≤ b) fun h => ltV_not.1 h
theorem sortH_le (l : List (Nat × Rat)) : (sortW ltH l).Pairwise (fun a b => a.2 ≤ b.2) := by
 have := sortW_srt (lt := ltH) (fun a b h => ltH_not.2 (Rat.le_of_lt (ltH_iff.1 h))) (fun a b c h k => ltH_not.2 (Rat.le_trans (ltH_not.1 k) (ltH_not.1 h))) l
 exact this.imp (S := fun a b => a.2 ≤ b.2) fun h => ltH_not.1 h
theorem sortV_lt {l : List Nat} (h : l.Nodup) : (sortW ltV l).Pairwise (fun a b => a < b) := by
 have hn : (sortW ltV l).Nodup := (sortW_perm l).nodup_iff.2 h
 exact ((sortV_le l).and hn).imp (S := fun a b => a < b) fun h => Nat.lt_of_le_of_ne h.1 h.2
theorem getD_lt {l : List Nat} (h : l.Pairwise (fun a b => a < b)) (i : Nat) (hi : i + 1 < l.length) : l.getD i 0 < l.getD (i + 1) 0 := by
 rw [List.getD_eq_getElem?_getD, List.getD_eq_getElem?_getD, List.getElem?_eq_getElem (by omega), List.getElem?_eq_getElem hi]
 exact List.pairwise_iff_getElem.1 h i (i + 1) (by omega) hi (by omega)
end Go.Pf.Vc
namespace Go.Pf.Vc
open Go Go.Pf
set_option maxRecDepth 100000
set_option maxHeartbeats 1000000
section
variable {l : List Ck} {A : List Nat} {q p : Rat} {D : Int}
theorem hs_mem {f : Nat → Rat} {h : Nat × Rat} (hh : h ∈ hsS A f) : h.1 ∈ A ∧ h.2 = f h.1 := by
 unfold hsS at hh
 rw [sortW_mem] at hh
 obtain ⟨a, ha, rfl⟩ := List.mem_map.1 hh
 exact ⟨ha, rfl⟩
theorem hs_perm (f : Nat → Rat) : ((hsS A f).map Prod.fst).Perm A := by
 have := (sortW_perm (lt := ltH) (A.map fun a => (a, f a))).map Prod.fst
 rw [List.map_map] at this
 exact this.trans (by rw [show (Prod.fst ∘ fun a => (a, f a)) = id from rfl, List.map_id])
theorem hs_len (f : Nat → Rat) : (hsS A f).length = A.length := by unfold hsS; rw [sortW_len, List.length_map]
theorem HV.nodup (h : HV l A q p D) (f : Nat → Rat) : ((hsS A f).map Prod.fst).Nodup := (hs_perm f).nodup_iff.2 (h.srt.imp fun k => Nat.ne_of_lt k)
theorem lft_mem {f : Nat → Rat} {a : Nat} : a ∈ lftS A f ↔ a ∈ ((hsS A f).take (A.length / 2)).map Prod.fst := sortW_mem ltV _
theorem rgt_mem {f : Nat → Rat} {a : Nat} : a ∈ rgtS A f ↔ a ∈ ((hsS A f).drop (A.length / 2)).map Prod.fst := sortW_mem ltV _
theorem lft_len (f : Nat → Rat) : (lftS A f).length = A.length / 2 := by unfold lftS; rw [sortW_len, List.length_map, List.length_take, hs_len]; omega
theorem rgt_len (f : Nat → Rat) : (rgtS A f).length = A.length - A.length / 2 := by unfold rgtS; rw [sortW_len, List.length_map, List.length_drop, hs_len]
theorem HV.lsrt (h : HV l A q p D) (f : Nat → Rat) : (lftS A f).Pairwise (fun a b => a < b) := by
 unfold lftS
 refine sortV_lt ?_
 rw [List.map_take]
 exact (h.nodup f).sublist (List.take_sublist _ _)
theorem HV.rsrt (h : HV l A q p D) (f : Nat → Rat) : (rgtS A f).Pairwise (fun a b => a < b) := by
 unfold rgtS
 refine sortV_lt ?_
 rw [List.map_drop]
 exact (h.nodup f).sublist (List.drop_sublist _ _)
theorem cut_mem {f : Nat → Rat} (h2 : 2 ≤ A.length) : ∃ b ∈ A, cutH A f = f b := by
 have hk : A.length / 2 - 1 < (hsS A f).length := by rw [hs_len]; omega
 have e : (hsS A f).getD (A.length / 2 - 1) (0, 0) = (hsS A f)[A.length / 2 - 1] := by rw [List.getD_eq_getElem?_getD, List.getElem?_eq_getElem hk]; rfl
 have := hs_mem (List.getElem_mem hk)
 refine ⟨_, this.1, ?_⟩
 unfold cutH
 rw [e]
 exact this.2
theorem lft_le {f : Nat → Rat} (h2 : 2 ≤ A.length) {a : Nat} (ha : a ∈ lftS A f) : a ∈ A ∧ f a ≤ cutH A f := by
 obtain ⟨h, hh, rfl⟩ := List.mem_map.1 (lft_mem.1 ha)
 obtain ⟨i, hi, rfl⟩ := List.getElem_of_mem hh
 rw [List.length_take, hs_len] at hi
 have hi' : i < (hsS A f).length := by rw [hs_len]; omega
 rw [List.getElem_take]
 have k := hs_mem (List.getElem_mem hi')
 have hk : A.length / 2 - 1 < (hsS A f).length := by rw [hs_len]; omega
 refine ⟨k.1, ?_⟩
 rw [← k.2]
 unfold cutH
 rw [List.getD_eq_getElem?_getD, List.getElem?_eq_getElem hk]
 show _ ≤ ((hsS A f)[A.length / 2 - 1]).2
 by_cases e : i = A.length / 2 - 1
 · subst e; exact Rat.le_refl
 · exact List.pairwise_iff_getElem.1 (sortH_le _) i (A.length / 2 - 1) hi' hk (by omega)
theorem rgt_ge {f : Nat → Rat} (h2 : 2 ≤ A.length) {a : Nat} (ha : a ∈ rgtS A f) : a ∈ A ∧ cutH A f ≤ f a := by
 obtain ⟨h, hh, rfl⟩ := List.mem_map.1 (rgt_mem.1 ha)
 obtain ⟨i, hi, rfl⟩ := List.getElem_of_mem hh
 rw [List.length_drop, hs_len] at hi
 have hi' : A.length / 2 + i < (hsS A f).length := by rw [hs_len]; omega
 rw [List.getElem_drop]
 have k := hs_mem (List.getElem_mem hi')
 have hk : A.length / 2 - 1 < (hsS A f).length := by rw [hs_len]; omega
 refine ⟨k.1, ?_⟩
 rw [← k.2]
 unfold cutH
 rw [List.getD_eq_getElem?_getD, List.getElem?_eq_getElem hk]
 exact List.pairwise_iff_getElem.1 (sortH_le _) (A.length / 2 - 1) (A.length / 2 + i) hk hi' (by omega)
end
end Go.Pf.Vc
namespace Go.Pf.Vc
open Go Go.Pf
set_option maxRecDepth 100000
set_option maxHeartbeats 1000000
section
variable {l : List Ck} {A : List Nat} {q p : Rat} {D : Int}
theorem HV.split (hd : DK l) (h : HV l A q p D) (h2 : 2 ≤ A.length) (hD : 72 * D ≤ 100000000) : ∃ D', D' ≤ 72 * D ∧ HV l (lftS A (fA l A q p)) q (cutH A (fA l A q p)) D' ∧ HV l (rgtS A (fA l A q p)) (cutH A (fA l A q p)) p D' := by
 have D1 := h.D1
 have l6 := h.len.2
 obtain ⟨b, hb, eb⟩ := cut_mem (f := fA l A q p) h2
 have k := part_ok h2 l6
 have M : ∀ a ∈ A, MkV l a q ((vXA l a p - vXA l a q) * partR A) ((A.length : Int) * D) := fun a ha => (h.sm hd h2 ha).2.2.2.2
 have ef : ∀ a, fA l A q p a = mkV l a q ((vXA l a p - vXA l a q) * partR A) := fun a => rfl
 have w0 : ∀ a ∈ A, 0 < (vXA l a p - vXA l a q) * partR A := fun a ha => Rat.mul_pos (h.pos a ha) k.2.1
 have w1 : ∀ a ∈ A, (vXA l a p - vXA l a q) * partR A < vXA l a p - vXA l a q := fun a ha => by
   have := Rat.mul_lt_mul_of_pos_left k.2.2 (h.pos a ha)
   rwa [Rat.mul_one] at this
 obtain ⟨d, hd12, hc⟩ := (M b hb).d
 rw [← ef, ← eb] at hc
 have k6 : (A.length : Int) * D ≤ 6 * D := Int.mul_le_mul_of_nonneg_right (by omega) (by omega)
 have k1 : 2 * D ≤ (A.length : Int) * D := Int.mul_le_mul_of_nonneg_right (by omega) (by omega)
 have d6 : d * ((A.length : Int) * D) ≤ 12 * ((A.length : Int) * D) := Int.mul_le_mul_of_nonneg_right (by omega) (by omega)
 have d1 : 1 * ((A.length : Int) * D) ≤ d * ((A.length : Int) * D) := Int.mul_le_mul_of_nonneg_right (by omega) (by omega)
 have iq := (h.iq.up D1.1 (d := (A.length : Int)) (by omega)).up (by omega) hd12.1
 have ip := (h.ip.up D1.1 (d := (A.length : Int)) (by omega)).up (by omega) hd12.1
 have cl : cutH A (fA l A q p) ≤ lenR l := by rw [eb, ef]; exact (M b hb).le
 have cq : q ≤ cutH A (fA l A q p) := by rw [eb, ef]; exact (M b hb).ge
 have posL : ∀ a ∈ lftS A (fA l A q p), 0 < vXA l a (cutH A (fA l A q p)) - vXA l a q := fun a ha => by
   obtain ⟨m, hle⟩ := lft_le h2 ha
   have := mono3 hd (h.mem a m) hle
   rw [ef, (M a m).eqv] at this
   have := w0 a m
   grind
 have posR : ∀ a ∈ rgtS A (fA l A q p), 0 < vXA l a p - vXA l a (cutH A (fA l A q p)) := fun a ha => by
   obtain ⟨m, hle⟩ := rgt_ge h2 ha
   have := mono3 hd (h.mem a m) hle
   rw [ef a, (M a m).eqv] at this
   have := w1 a m
   grind
 have exL : ∃ a, a ∈ lftS A (fA l A q p) := List.exists_mem_of_length_pos (by rw [lft_len]; omega)
 have exR : ∃ a, a ∈ rgtS A (fA l A q p) := List.exists_mem_of_length_pos (by rw [rgt_len]; omega)
 have qc : q < cutH A (fA l A q p) := by
   obtain ⟨a, ha⟩ := exL
   have := posL a ha
   exact lt3 hd (h.mem a (lft_le h2 ha).1) (by grind)
 have cp : cutH A (fA l A q p) < p := by
   obtain ⟨a, ha⟩ := exR
   have := posR a ha
   exact lt3 hd (h.mem a (rgt_ge h2 ha).1) (by grind)
 refine ⟨d * ((A.length : Int) * D), by omega, ?_, ?_⟩
 · exact ⟨by rw [lft_len]; omega, h.lsrt _, fun a ha => h.mem a (lft_le h2 ha).1, h.q0, cl, ⟨by omega, by omega⟩, iq, hc, qc, posL⟩
 · exact ⟨by rw [rgt_len]; omega, h.rsrt _, fun a ha => h.mem a (rgt_ge h2 ha).1, Rat.le_trans h.q0 cq, h.p1, ⟨by omega, by omega⟩, hc, ip, cp, posR⟩
theorem fA_sm (hd : DK l) (h : HV l A q p D) (h2 : 2 ≤ A.length) : ∀ a ∈ A, small (fA l A q p a) := fun a ha => by
 have m := (h.sm hd h2 ha).2.2.2.2
 have D1 := h.D1
 have l6 := h.len.2
 have k6 : (A.length : Int) * D ≤ 6 * D := Int.mul_le_mul_of_nonneg_right (by omega) (by omega)
 have k1 : 2 * D ≤ (A.length : Int) * D := Int.mul_le_mul_of_nonneg_right (by omega) (by omega)
 exact m.sm hd (by omega) (by omega) h.q0
theorem gA_len (a : Nat) : (gA l A q p a).length ≤ 2 := by
 unfold gA hLog
 cases hAsk l q p <;> simp
theorem HV.run (hd : DK l) (h : HV l A q p D) (h2 : 2 ≤ A.length) {lg : List Qy} (hm : lg.length + 2 * A.length ≤ 2000) (K) :
   w_halve_Split (cks l) (logs lg) (A.map encV) q.num q.den p.num p.den K = K (cks l) (logs (lg ++ A.flatMap (gA l A q p))) (cutH A (fA l A q p)).num (cutH A (fA l A q p)).den ((lftS A (fA l A q p)).map encV) ((rgtS A (fA l A q p)).map encV) 0 := by
 obtain ⟨a, ha⟩ := List.exists_mem_of_length_pos (l := A) (by omega)
 obtain ⟨s1, s2, _⟩ := h.sm hd h2 ha
 exact split_ok hd A h2 (by have := h.len.2; omega) (getD_lt h.srt) h.mem s1 s2 h.q0 h.qp h.p1 (part_ok h2 h.len.2).1 _ _ gA_len (fA_sm hd h h2) hm (Nat.le_refl _) (h.mark hd h2) K
end
end Go.Pf.Vc
namespace Go.Pf.Vc
open Go Go.Pf
set_option maxRecDepth 100000
set_option maxHeartbeats 1000000
def dvM (l : List Ck) : Nat → List Nat → Rat → Rat → List (Nat × RS) × List Qy
 | 0, _, _, _ => ([], [])
 | n + 1, A, q, p =>
   if A.length ≤ 1 then ([(A.getD 0 0, (q, p))], [])
   else
     let L := dvM l n (lftS A (fA l A q p)) q (cutH A (fA l A q p))
     let R := dvM l n (rgtS A (fA l A q p)) (cutH A (fA l A q p)) p
     (L.1 ++ R.1, A.flatMap (gA l A q p) ++ (L.2 ++ R.2))
section
variable {l : List Ck}
theorem dvM_one {n : Nat} {A : List Nat} {q p : Rat} (h : A.length ≤ 1) : dvM l (n + 1) A q p = ([(A.getD 0 0, (q, p))], []) := by
 unfold dvM
 rw [if_pos h]
theorem dvM_two {n : Nat} {A : List Nat} {q p : Rat} (h : 2 ≤ A.length) : dvM l (n + 1) A q p = ((dvM l n (lftS A (fA l A q p)) q (cutH A (fA l A q p))).1 ++ (dvM l n (rgtS A (fA l A q p)) (cutH A (fA l A q p)) p).1, A.flatMap (gA l A q p) ++ ((dvM l n (lftS A (fA l A q p)) q (cutH A (fA l A q p))).2 ++ (dvM l n (rgtS A (fA l A q p)) (cutH A (fA l A q p)) p).2)) := by
 conv => lhs; unfold dvM
 rw [if_neg (by omega)]
theorem lr_perm {A : List Nat} (f : Nat → Rat) : (lftS A f ++ rgtS A f).Perm A := by
 have h1 : (lftS A f).Perm (((hsS A f).take (A.length / 2)).map Prod.fst) := sortW_perm _
 have h2 : (rgtS A f).Perm (((hsS A f).drop (A.length / 2)).map Prod.fst) := sortW_perm _
 refine (h1.append h2).trans ?_
 rw [← List.map_append, List.take_append_drop]
 exact hs_perm f
end
end Go.Pf.Vc
namespace Go.Pf.Vc
open Go Go.Pf
set_option maxRecDepth 100000
theorem flat_le {α β : Type} (g : α → List β) (c : Nat) : ∀ A : List α, (∀ a ∈ A, (g a).length ≤ c) → (A.flatMap g).length ≤ c * A.length
 | [], _ => by simp
 | a :: A, h => by
   have ih := flat_le g c A fun b hb => h b (List.mem_cons_of_mem _ hb)
   have := h a (List.mem_cons_self ..)
   rw [List.flatMap_cons, List.length_append, List.length_cons, Nat.mul_add, Nat.mul_one]
   omega
section
variable {l : List Ck}
theorem dvM_log : ∀ (n : Nat) (A : List Nat) (q p : Rat), A.length ≤ 2 ^ n → 1 ≤ A.length → (dvM l (n + 1) A q p).2.length ≤ 2 * A.length * n
 | 0, A, q, p, h, h1 => by
   have h : A.length ≤ 1 := h
   rw [dvM_one h]
   simp
 | n + 1, A, q, p, h, h1 => by
   by_cases h2 : A.length ≤ 1
   · rw [dvM_one h2]; exact Nat.zero_le _
   · have e2 : 2 ^ (n + 1) = 2 * 2 ^ n := by rw [Nat.pow_succ, Nat.mul_comm]
     have f1 := flat_le (gA l A q p) 2 A fun a _ => gA_len a
     have k1 := dvM_log n (lftS A (fA l A q p)) q (cutH A (fA l A q p)) (by rw [lft_len]; omega) (by rw [lft_len]; omega)
     have k2 := dvM_log n (rgtS A (fA l A q p)) (cutH A (fA l A q p)) p (by rw [rgt_len]; omega) (by rw [rgt_len]; omega)
     rw [lft_len] at k1
     rw [rgt_len] at k2
     rw [dvM_two (by omega)]
     simp only [List.length_append]
     have e : 2 * A.length * (n + 1) = 2 * (A.length / 2) * n + 2 * (A.length - A.length / 2) * n + 2 * A.length := by
       rw [← Nat.add_mul, Nat.mul_add, Nat.mul_one]
       congr 2
       omega
     omega
end
end Go.Pf.Vc
namespace Go.Pf.Vc
open Go Go.Pf
set_option maxRecDepth 100000
section
variable {l : List Ck}
theorem dvM_end : ∀ (n : Nat) (A : List Nat) (q p : Rat), A.length ≤ 2 ^ n → 1 ≤ A.length → ∃ z ∈ (dvM l (n + 1) A q p).1, z.2.2 = p
 | 0, A, q, p, h, h1 => by
   have h : A.length ≤ 1 := h
   rw [dvM_one h]
   exact ⟨_, List.mem_singleton.2 rfl, rfl⟩
 | n + 1, A, q, p, h, h1 => by
   by_cases h2 : A.length ≤ 1
   · rw [dvM_one h2]
     exact ⟨_, List.mem_singleton.2 rfl, rfl⟩
   · have e2 : 2 ^ (n + 1) = 2 * 2 ^ n := by rw [Nat.pow_succ, Nat.mul_comm]
     obtain ⟨z, hz, e⟩ := dvM_end n (rgtS A (fA l A q p)) (cutH A (fA l A q p)) p (by rw [rgt_len]; omega) (by rw [rgt_len]; omega)
     rw [dvM_two (by omega)]
     exact ⟨z, List.mem_append.2 (.inr hz), e⟩
end
end Go.Pf.Vc
