/- The framework, part 32: answers are determined. -/
import Derived.Test.YtfkfmlifhdcolaaDoorFw31
namespace Go.Pf

/-! Shorter literals. -/
abbrev Ls : Type := List PV
def O (d : Nat) (x : AOp) : AOper := ⟨some d, x, none⟩
def M (d s : Nat) : AOper := ⟨some d, .mv (.t s), none⟩
def I (n : Int) : Opd := .c (.int .i64 n)
def oX (d : Nat) (op : BinOp) (a b : Nat) : AOper := ⟨some d, .bin op (.t a) (.t b), none⟩
def oT (d sz a : Nat) : AOper := ⟨some d, .load true sz (.t a), none⟩
def oF (d sz a : Nat) : AOper := ⟨some d, .load false sz (.t a), none⟩
def oQ (l : List AOper) (d : List Nat) : TCode := .ops l [] [] d
/-- What the conditions' laws say. -/
abbrev OkF (E : Env) (wp : List PV → (PV → Prop) → Prop) (n : Nat) : Prop := ∀ as K, wp as K → ∃ r, K r ∧ Ans E n as r
theorem Ans.unique {E : Env} {n : Nat} {as : List PV} {r r' : PV} (h : Ans E n as r) (h' : Ans E n as r') : r = r' := by
  obtain ⟨m, hm⟩ := h
  obtain ⟨m', hm'⟩ := h'
  have e := hm (m + m') (by omega)
  rw [hm' (m + m') (by omega)] at e
  exact (Option.some.inj e).symm

theorem detC {E : Env} {n : Nat} {wp : List PV → (PV → Prop) → Prop} (ok : ∀ as K, wp as K → ∃ r, K r ∧ Ans E n as r) {as : List PV} {x : PV}
    (h : ∀ K : PV → Prop, K x → wp as K) {K : PV → Prop} (k : wp as K) : K x := by
  obtain ⟨r, h1, h2⟩ := ok as K k
  obtain ⟨q, h3, h4⟩ := ok as (fun y => y = x) (h _ rfl)
  subst h3
  rw [← h2.unique h4]
  exact h1
end Go.Pf
