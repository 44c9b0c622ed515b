/- The framework, part 31: slices.Clone, whose answer is the same for a nil slice and for an empty one. -/
import Derived.Test.YtfkfmlifhdcolaaDoorFw30
namespace Go.Pf
open Go Go.RowKit

section
variable {P : Program} {E : Env}

/-- A run in a heap of its own, of arguments that are read in some way. -/
theorem run_pureR {call} (hc : InlineOk P E call) {I : Nat → Prop} {w : World} {f : Nat} {args : List PV} {vs : List Value} {r q : PV} {H : Hp} (himm : ∀ b, I b → b < w.heap.size)
    (hg : ∀ n x, E.glob n = some x → I n ∧ ∃ vs, 0 < vs.length ∧ RC I w x vs ∧ At w n 0 vs) (hv : VRs ⟨fun _ => none, fun _ => none, I⟩ [] w args vs) (hin : call f args [] = some (r, H)) (h : purR H r = some q) :
    CallR P f vs.toArray w fun v w' => Below w.heap.size w w' ∧ VP (fun b => I b ∨ (w.heap.size ≤ b ∧ b < w'.heap.size)) w' q v := by
  let g0 : Gh := ⟨fun _ => none, fun _ => none, I⟩
  have hr : Rel E 0 g0 [] [] #[] w := by
    refine ⟨Nat.zero_le _, fun s fv e => by simp [fget] at e, fun id hb e => by simp at e, fun id id' hb b o b' o' e => by simp at e, fun id b o e => by simp [g0] at e, fun s s' b e => by simp [g0] at e, fun s b id o e => by simp [g0] at e, fun s b e => by simp [g0] at e, himm, hg⟩
  refine (hc f args [] r H hin 0 g0 [] #[] w vs hr hv).mono ?_
  rintro v w' ⟨g', n1, r1, hvr⟩
  obtain ⟨g2, H2, r2, n2, hvp⟩ := purR_sound r1 hvr h
  have n3 := n1.trans n2
  have noR : ∀ b, ¬ RngR g0 b := fun b ⟨id, o, e⟩ => by simp [g0] at e
  have noM : ∀ b, ¬ MutF g0 b := fun b ⟨s, e⟩ => by simp [g0] at e
  refine ⟨⟨n3.os, n3.tape, n3.output, n3.size, fun k hk => n3.kept k hk (noR k) (noM k)⟩, VP_keep (fun b hb => ⟨?_, rfl⟩) hvp⟩
  rcases Nat.lt_or_ge b w.heap.size with h1 | h1
  · rcases n3.immb b h1 hb with h2 | h2
    · exact .inl h2
    · exact absurd h2 (noR b)
  · exact .inr ⟨h1, r2.imm b hb⟩

/-- An empty slice: nil or not. -/
theorem sum_mt (hE : EnvOk P E) (hm : P.follows .mixedOrders = true) {n f : Nat} {q : PV} (h : ∀ b, topV E n f [.mt b] = some q) : SumOk P E.glob f [.data []] q := by
  intro I w vs himm hgl hv
  simp only [VPs, VP1, RC] at hv
  obtain ⟨v, vr, rfl, ⟨a, len, cap, e, hl, hc, hm2, _⟩, rfl⟩ := hv
  simp only [List.cons.injEq, and_true] at e
  subst e
  have hl : len = 0 := hl
  subst hl
  have hh := h a.isNone
  unfold topV at hh
  split at hh
  · rename_i r H hin
    refine run_pureR (inline_ok hE hm n) himm hgl (args := [.mt a.isNone]) ?_ hin hh
    simp only [VRs, VR]
    exact ⟨_, _, rfl, ⟨a, cap, rfl, hm2, rfl⟩, rfl⟩
  · cases hh
end

/-- The code of slices.Clone. -/
def cloneA (esz bytes : Nat) (z : PV) : AFn := ⟨1, [.tmp 2],
 (.seq
  (.ops [⟨some 2, (.mv (.c .nils)), none⟩] [] [2])
  (.seq
   (.seq
    (.ops [⟨some 3, (.mv (.t 0)), none⟩,
     ⟨some 4, (.eqN false (.t 3)), none⟩] [] [3])
    (.cond (.t 4)
     (.seq (.ops [⟨some 2, (.mv (.c .nils)), none⟩] [] [0, 4]) .ret)
     .skip))
   (.seq
    (.ops [⟨some 5, (.buildSl true esz z 0 []), none⟩,
     ⟨some 6, (.mv (.t 0)), none⟩,
     ⟨some 7, (.app true esz bytes (.t 5) (.t 6)), none⟩,
     ⟨some 2, (.mv (.t 7)), none⟩] [] [0, 4, 5, 6, 7])
    .ret)))⟩

/-- The clones: number, size of an element in cells, in bytes. -/
abbrev Clones := List (Nat × Nat × Nat)
def cloneOk (esz bytes : Nat) (rows : List PV) : Bool := headOk esz rows && decide ((rows.length + 64) * (bytes + 1) ≤ room)
def cloneSum : Clones → Nat → List PV → Option PV
  | [], _, _ => none
  | (k, esz, bytes) :: r, n, as => bif Nat.beq k n then (match as with
      | [.data rows] => (bif cloneOk esz bytes rows then some (.data rows) else none)
      | _ => none) else cloneSum r n as
def inClones : Clones → Nat → Bool
  | [], _ => false
  | (k, _, _) :: r, n => Nat.beq k n || inClones r n

section
variable {P : Program} {E : Env}

theorem clone_mt {n esz bytes : Nat} {z : PV} (hf : E.fns n = some (cloneA esz bytes z)) (b : Bool) : topV E 12 n [.mt b] = some (.data []) := by
  unfold topV
  cases b <;> simp [inline, exec, hf, cloneA, runReg, runOps, stepOp, guardOk, opOut, evV, ev, frame0, fget, fset, fdels, fdel, putBx, putDst, outV, Option.map, ressOf, resOf, packed, purR, purify, purify1, appV, rowsOf, headOk, srcOk]

theorem clone_cons {n esz bytes : Nat} {z : PV} (hf : E.fns n = some (cloneA esz bytes z)) {x : PV} {r : List PV} (h : cloneOk esz bytes (x :: r) = true) : topV E 12 n [.data (x :: r)] = some (.data (x :: r)) := by
  simp only [cloneOk, Bool.and_eq_true, decide_eq_true_eq, List.length_cons] at h
  obtain ⟨h1, h2⟩ := h
  unfold topV
  simp [inline, exec, hf, cloneA, runReg, runOps, stepOp, guardOk, opOut, evV, ev, frame0, fget, fset, fdels, fdel, putBx, putDst, outV, Option.map, ressOf, resOf, packed, purR, purify, purify1, appV, rowsOf, h1, srcOk, appFresh, h2]

theorem cloneSum_ok (hE : EnvOk P E) (hm : P.follows .mixedOrders = true) : ∀ (cl : Clones), (∀ n esz bytes, (n, esz, bytes) ∈ cl → ∃ z, E.fns n = some (cloneA esz bytes z)) → ∀ n as r, cloneSum cl n as = some r → SumOk P E.glob n as r
  | [], _, _, _, _, h => by simp [cloneSum] at h
  | (k, esz, bytes) :: t, hc, n, as, r, h => by
    simp only [cloneSum] at h
    cases hb : Nat.beq k n with
    | false => rw [hb] at h; exact cloneSum_ok hE hm t (fun n e b hm => hc n e b (List.mem_cons_of_mem _ hm)) n as r (by simpa using h)
    | true =>
      rw [hb] at h
      have e := Nat.eq_of_beq_eq_true hb
      subst e
      simp only [cond_true] at h
      split at h
      · rename_i rows
        cases hk : cloneOk esz bytes rows with
        | false => rw [hk] at h; simp at h
        | true =>
          rw [hk] at h
          simp only [cond_true, Option.some.injEq] at h
          subst h
          obtain ⟨z, hf⟩ := hc k esz bytes List.mem_cons_self
          cases rows with
          | nil => exact sum_mt hE hm (fun b => clone_mt hf b)
          | cons x r => exact sum_top hE hm (clone_cons hf hk)
      · cases h
end

/-- The environment of a seat. -/
def lookG : List (Nat × PV) → Nat → Option PV
  | [], _ => none
  | (k, a) :: r, n => bif Nat.beq k n then some a else lookG r n
theorem SumOk.any {P : Program} {G : Nat → Option PV} {f : FuncId} {as : List PV} {r : PV} (h : SumOk P (fun _ => none) f as r) : SumOk P G f as r :=
  fun I w vs hI _ hv => h I w vs hI (fun _ _ e => nomatch e) hv
def baseC (add sub : Nat) (tab : List (Nat × AFn)) (qui : List Nat) (cl : Clones) (gl : List (Nat × PV)) : Env :=
  { glob := lookG gl, sum := fun n as => match sumC add sub n as with | some r => some r | none => cloneSum cl n as, fns := lookF tab, frz := fun _ => false, qui := memN qui }

def special (add sub : Nat) (cl : Clones) (n : Nat) : Bool := Nat.beq n add || (Nat.beq n sub || inClones cl n)

theorem cloneSum_none : ∀ (cl : Clones) (n : Nat) (as : List PV), inClones cl n = false → cloneSum cl n as = none
  | [], _, _, _ => rfl
  | (k, _, _) :: r, n, as, h => by
    simp only [inClones, Bool.or_eq_false_iff] at h
    simp only [cloneSum, h.1, cond_false]
    exact cloneSum_none r n as h.2

theorem baseC_none {add sub : Nat} {tab : List (Nat × AFn)} {qui : List Nat} {cl : Clones} {gl : List (Nat × PV)} {n : Nat} (h : special add sub cl n = false) (as : List PV) : (baseC add sub tab qui cl gl).sum n as = none := by
  simp only [special, Bool.or_eq_false_iff] at h
  simp only [baseC, sumC_none h.1 h.2.1, cloneSum_none cl n as h.2.2]

theorem add64_okC {add sub : Nat} {tab : List (Nat × AFn)} {qui : List Nat} {cl : Clones} {gl : List (Nat × PV)} : ∀ as K, wp_math_bits_Add64 as K → ∃ r, K r ∧ Ans (baseC add sub tab qui cl gl) add as r := by
  intro as K h
  unfold wp_math_bits_Add64 pw_math_bits_Add64 at h
  split at h
  · rename_i a b c
    obtain ⟨h1, h⟩ := asr_iff.1 h
    have h1 : c.toNat ≤ 1 := by simpa using h1
    refine ⟨_, h, 0, fun m _ => ?_⟩
    have e : sumC add sub add [.int .u64 a, .int .u64 b, .int .u64 c] = some (.tup [u64 ((a.toNat + b.toNat + c.toNat) % 18446744073709551616), u64 ((a.toNat + b.toNat + c.toNat) / 18446744073709551616)]) := by
      simp only [sumC, Nat.beq_refl, Bool.true_and, Nat.ble_eq_true_of_le h1, cond_true]
    simp only [pureRes, baseC, e, u64]
  · exact h.elim
theorem sub64_okC {add sub : Nat} (hne : Nat.beq sub add = false) {tab : List (Nat × AFn)} {qui : List Nat} {cl : Clones} {gl : List (Nat × PV)} : ∀ as K, wp_math_bits_Sub64 as K → ∃ r, K r ∧ Ans (baseC add sub tab qui cl gl) sub as r := by
  intro as K h
  unfold wp_math_bits_Sub64 pw_math_bits_Sub64 at h
  split at h
  · rename_i a b c
    obtain ⟨h1, h⟩ := asr_iff.1 h
    have h1 : c.toNat ≤ 1 := by simpa using h1
    refine ⟨_, h, 0, fun m _ => ?_⟩
    have e : sumC add sub sub [.int .u64 a, .int .u64 b, .int .u64 c] = some (.tup [u64 ((a.toNat + 18446744073709551616 - b.toNat - c.toNat) % 18446744073709551616), u64 (bif Nat.ble (b.toNat + c.toNat) a.toNat then 0 else 1)]) := by
      simp only [sumC, hne, Nat.beq_refl, Bool.true_and, Bool.false_and, Nat.ble_eq_true_of_le h1, cond_true, cond_false]
    simp only [pureRes, baseC, e, u64]
  · exact h.elim

/-- What slices.Clone asks. -/
def w_clone (esz bytes : Nat) (p0 : List PV) (K : List PV → Prop) : Prop := asr (cloneOk esz bytes p0) (K p0)
def pw_clone (w : List PV → (List PV → Prop) → Prop) (as : List PV) (K : PV → Prop) : Prop :=
  match as with
  | [(.data p0)] => w p0 (fun r0 => K (.data r0))
  | _ => False
def wp_clone (esz bytes : Nat) (as : List PV) (K : PV → Prop) : Prop := pw_clone (w_clone esz bytes) as K

theorem cloneSum_mem {n esz bytes : Nat} {rows : List PV} : ∀ (cl : Clones), (∀ e b, (n, e, b) ∈ cl → e = esz ∧ b = bytes) → (n, esz, bytes) ∈ cl → cloneOk esz bytes rows = true → cloneSum cl n [.data rows] = some (.data rows)
  | [], _, h, _ => by simp at h
  | (k, e, b) :: r, hu, h, hk => by
    simp only [cloneSum]
    cases hb : Nat.beq k n with
    | true =>
      have e1 := Nat.eq_of_beq_eq_true hb
      subst e1
      obtain ⟨h1, h2⟩ := hu e b List.mem_cons_self
      subst h1; subst h2
      simp only [cond_true, hk]
    | false =>
      simp only [cond_false]
      refine cloneSum_mem r (fun e b hm => hu e b (List.mem_cons_of_mem _ hm)) ?_ hk
      rcases List.mem_cons.1 h with h | h
      · cases h; rw [Nat.beq_refl] at hb; cases hb
      · exact h

/-- The clone at a place of the list. -/
def cloneAt : Clones → Nat → Option (Nat × Nat)
  | [], _ => none
  | (k, e, b) :: r, n => bif Nat.beq k n then some (e, b) else cloneAt r n
theorem cloneSum_at {n esz bytes : Nat} {rows : List PV} : ∀ (cl : Clones), cloneAt cl n = some (esz, bytes) → cloneOk esz bytes rows = true → cloneSum cl n [.data rows] = some (.data rows)
  | [], h, _ => by simp [cloneAt] at h
  | (k, e, b) :: r, h, hk => by
    simp only [cloneAt] at h
    simp only [cloneSum]
    cases hb : Nat.beq k n with
    | true => rw [hb] at h; simp only [cond_true, Option.some.injEq, Prod.mk.injEq] at h; obtain ⟨rfl, rfl⟩ := h; simp only [cond_true, hk]
    | false => rw [hb] at h; simp only [cond_false] at h ⊢; exact cloneSum_at r h hk

theorem clone_okC {add sub : Nat} {tab : List (Nat × AFn)} {qui : List Nat} {cl : Clones} {gl : List (Nat × PV)} {n esz bytes : Nat} (h1 : Nat.beq n add = false) (h2 : Nat.beq n sub = false) (hc : cloneAt cl n = some (esz, bytes)) :
    ∀ as K, wp_clone esz bytes as K → ∃ r, K r ∧ Ans (baseC add sub tab qui cl gl) n as r := by
  intro as K h
  unfold wp_clone pw_clone at h
  split at h
  · rename_i rows
    obtain ⟨hk, h⟩ := asr_iff.1 h
    refine ⟨_, h, 0, fun m _ => ?_⟩
    simp only [pureRes, baseC, sumC_none h1 h2, cloneSum_at cl hc hk]
  · exact h.elim

theorem baseC_ok {P : Program} {add sub : Nat} {tab : List (Nat × AFn)} {qui : List Nat} {cl : Clones} {gl : List (Nat × PV)} (hm : P.follows .mixedOrders = true) (ha : IsExtern P add add64Entry) (hs : IsExtern P sub sub64E) (ht : AllOk P tab)
    (hc : ∀ n esz bytes, (n, esz, bytes) ∈ cl → ∃ z, lookF tab n = some (cloneA esz bytes z)) : EnvOk P (baseC add sub tab qui cl gl) where
  sum := by
    intro n as r h
    simp only [baseC] at h
    split at h
    · rename_i q hq; cases h; exact sumC_ok ha hs n as _ hq
    · exact (cloneSum_ok (base_ok (qui := []) ha hs ht) hm cl (fun n e b hmem => hc n e b hmem) n as r h).any
  fns := fun n fn h => lookF_ok tab ht n fn h
end Go.Pf
