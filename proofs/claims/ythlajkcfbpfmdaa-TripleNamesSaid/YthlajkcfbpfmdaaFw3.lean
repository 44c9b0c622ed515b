/- The framework, part 3: what pure values stand for in the memory of the model, and what keeps this. -/
import Derived.Test.YthlajkcfbpfmdaaFw2
import Derived.Laws.CopyRow
import Derived.Calls
import Derived.Below
namespace Go.Pf
open Go Go.RowKit

/-- Nothing below a block has turned; the draws have gone on. -/
structure Bel (B : Nat) (w w' : World) : Prop extends Below B w w' where
  drawn : w.drawn ≤ w'.drawn
theorem Bel.refl (B : Nat) (w : World) : Bel B w w := ⟨Below.refl _ _, Nat.le_refl _⟩
theorem Bel.alloc {B : Nat} {a w : World} (h : Bel B a w) (hB : B ≤ w.heap.size) (o : Obj) : Bel B a (w.alloc o) := ⟨h.toBelow.alloc hB o, h.drawn⟩

/-- Cells from an offset of a block on. -/
def At (w : World) (b o : Nat) (vs : List Value) : Prop := ∀ j u, vs[j]? = some u → w.cell? ⟨b, o + j, none⟩ = some u

def inK (k : IntKind) (n : Int) : Prop := k.min ≤ n ∧ n ≤ k.max

mutual
/-- Pure data stand for cells. -/
def RC (I : Nat → Prop) (w : World) : PV → List Value → Prop
  | .bool b, vs => vs = [.bool b]
  | .int k n, vs => vs = [.int k n] ∧ inK k n
  | .data rows, vs => ∃ a len cap, vs = [.slice a len cap] ∧ len = rows.length ∧ len ≤ cap ∧ cap ≤ maxLen ∧
      (rows = [] ∨ ∃ b o esz, a = some ⟨b, o, none⟩ ∧ I b ∧ 0 < esz ∧ RowsC I w rows esz b o)
  | .agg cs, vs => CellsC I w cs vs
  | _, _ => False
def CellsC (I : Nat → Prop) (w : World) : List PV → List Value → Prop
  | [], vs => vs = []
  | x :: r, vs => ∃ v vr, vs = v :: vr ∧ x.one = true ∧ RC I w x [v] ∧ CellsC I w r vr
def RowsC (I : Nat → Prop) (w : World) : List PV → Nat → Nat → Nat → Prop
  | [], _, _, _ => True
  | x :: r, esz, b, o => (∃ vs, vs.length = esz ∧ RC I w x vs ∧ At w b o vs) ∧ RowsC I w r esz b (o + esz)
end

/-- A pointer to data. -/
def EptrP (I : Nat → Prop) (w : World) (rows : List PV) (i off : Nat) (v : Value) : Prop :=
  ∃ b o esz, v = .pointer (some ⟨b, o + i * esz + off, none⟩) ∧ I b ∧ 0 < esz ∧ i < rows.length ∧ RowsC I w rows esz b o

/-- Pure data stand for a value. -/
def VP1 (I : Nat → Prop) (w : World) : PV → Value → Prop
  | .agg cs, v => ∃ vs : List Value, v = .agg vs.toArray ∧ CellsC I w cs vs
  | .tup _, _ => False
  | .nils, v => v = .slice none 0 0
  | .eptr rows i off, v => EptrP I w rows i off v
  | x, v => RC I w x [v]
def VPs (I : Nat → Prop) (w : World) : List PV → List Value → Prop
  | [], vs => vs = []
  | x :: r, vs => ∃ v vr, vs = v :: vr ∧ VP1 I w x v ∧ VPs I w r vr
def VP (I : Nat → Prop) (w : World) : PV → Value → Prop
  | .tup ps, v => ∃ vs : List Value, v = .tuple vs.toArray ∧ VPs I w ps vs
  | x, v => VP1 I w x v

/-- What the proof knows beside: where each block of the evaluator lies; where each variable of the frame lies; which blocks nobody writes any more. -/
structure Gh where
  ρ : Nat → Option (Nat × Nat)
  β : Nat → Option Nat
  I : Nat → Prop
  lam : Nat → Option Nat := fun _ => none
/-- What a function of the evaluator is in the model: the yield of a loop is known by its place. -/
def Gh.tr (g : Gh) : Fn → Fn
  | .yield k => .yield ((g.lam k).getD 0)
  | f => f
def Gh.okF (g : Gh) : Fn → Prop
  | .yield k => (g.lam k).isSome = true
  | _ => True

def capFits (lo c ext : Nat) : Option Nat → Prop
  | some _ => lo + c ≤ ext
  | none => ext ≤ lo + c

def OwnR (g : Gh) (H : Hp) (w : World) (id lo len ext : Nat) (cap : Option Nat) (v : Value) : Prop :=
  ∃ hb a c, H[id]? = some hb ∧ ext ≤ hb.rows.length ∧ v = .slice (some a) len c ∧ len ≤ c ∧ c ≤ maxLen ∧ (∀ c0, cap = some c0 → c = c0) ∧
    (hb.rows.length = ext → ∃ b o, g.ρ id = some (b, o) ∧ lo + len ≤ ext ∧ (c ≠ 0 → a = ⟨b, o + lo * hb.esz, none⟩) ∧
      capFits lo c ext cap ∧
      ∃ (cur : Array Value) (T : TypeId), w.heap[b]? = some (Obj.cells cur T (0, 0)) ∧ o + (lo + c) * hb.esz ≤ cur.size)

def PtrR (g : Gh) (H : Hp) (id ext i off : Nat) (v : Value) : Prop :=
  ∃ hb a, H[id]? = some hb ∧ ext ≤ hb.rows.length ∧ v = .pointer (some a) ∧
    (hb.rows.length = ext → ∃ b o, g.ρ id = some (b, o) ∧ i < ext ∧ a = ⟨b, o + i * hb.esz + off, none⟩)

def EptrR (g : Gh) (w : World) (rows : List PV) (i off : Nat) (v : Value) : Prop :=
  EptrP g.I w rows i off v

mutual
/-- Values of the evaluator stand for values of the model. -/
def VR (g : Gh) (H : Hp) (w : World) : PV → Value → Prop
  | .bool b, v => v = .bool b
  | .int k n, v => v = .int k n ∧ inK k n
  | .nilp, v => v = .pointer none
  | .ptr id ext i off, v => PtrR g H id ext i off v
  | .eptr rows i off, v => EptrR g w rows i off v
  | .nils, v => v = .slice none 0 0
  | .emp, v => ∃ a, v = .slice a 0 0
  | .mt b, v => ∃ a c, v = .slice a 0 c ∧ c ≤ maxLen ∧ a.isNone = b
  | .data rows, v => RC g.I w (.data rows) [v]
  | .own id lo len ext cap, v => OwnR g H w id lo len ext cap v
  | .sub id ext i off n _, v => ∃ a, PtrR g H id ext i off (.pointer (some a)) ∧ v = .slice (some a) n n ∧ n ≤ 16777216
  | .fn f a b, v => ∃ as bs : List Value, v = .func (g.tr f) as.toArray bs.toArray ∧ VRs g H w a as ∧ VRs g H w b bs ∧ g.okF f
  | .nilf, v => v = .nilFunc
  | .agg cs, v => ∃ vs : List Value, v = .agg vs.toArray ∧ VCs g H w cs vs
  | .tup ps, v => ∃ vs : List Value, v = .tuple vs.toArray ∧ VRs g H w ps vs
def VRs (g : Gh) (H : Hp) (w : World) : List PV → List Value → Prop
  | [], vs => vs = []
  | x :: r, vs => ∃ v vr, vs = v :: vr ∧ VR g H w x v ∧ VRs g H w r vr
def VCs (g : Gh) (H : Hp) (w : World) : List PV → List Value → Prop
  | [], vs => vs = []
  | x :: r, vs => ∃ v vr, vs = v :: vr ∧ x.one = true ∧ VR g H w x v ∧ VCs g H w r vr
end

/-- A row of a block. -/
def RowR (g : Gh) (H : Hp) (w : World) : PV → List Value → Prop
  | .agg cs, vs => VCs g H w cs vs
  | x, vs => x.one = true ∧ ∃ v, vs = [v] ∧ VR g H w x v
def RowsR (g : Gh) (H : Hp) (w : World) : List PV → Nat → Nat → Nat → Prop
  | [], _, _, _ => True
  | x :: r, esz, b, o => (∃ vs, vs.length = esz ∧ RowR g H w x vs ∧ At w b o vs) ∧ RowsR g H w r esz b (o + esz)

/-- A block of the evaluator. -/
structure BlkR (g : Gh) (H : Hp) (w : World) (id : Nat) (hb : HB) (b o : Nat) : Prop where
  at_ : g.ρ id = some (b, o)
  esz : 0 < hb.esz
  cells : ∃ (cur : Array Value) (T : TypeId), w.heap[b]? = some (Obj.cells cur T (0, 0)) ∧ o + hb.rows.length * hb.esz ≤ cur.size
  rows : RowsR g H w hb.rows hb.esz b o
  pure : hb.pu = true → RowsC g.I w hb.rows hb.esz b o
  fz : hb.fz = true → g.I b
  live : hb.fz = false → ¬ g.I b

/-- A variable of the frame. -/
def BoxR (g : Gh) (H : Hp) (w : World) (row : PV) (b : Nat) : Prop :=
  ¬ g.I b ∧ ∃ (cur : Array Value) (T : TypeId), w.heap[b]? = some (Obj.cells cur T (0, 0)) ∧ RowR g H w row cur.toList

def FRel (g : Gh) (H : Hp) (w : World) (tmps : Array Value) (s : Nat) : FV → Prop
  | .v p => VR g H w p (tmps.getD s undef)
  | .box row => ∃ b, g.β s = some b ∧ tmps.getD s undef = .pointer (some ⟨b, 0, none⟩) ∧ BoxR g H w row b
  | .bp s' off => ∃ b, g.β s' = some b ∧ tmps.getD s undef = .pointer (some ⟨b, off, none⟩)

/-- The state of the evaluator stands for that of the model. -/
structure Rel (E : Env) (nt : Nat) (g : Gh) (F : Frm) (H : Hp) (tmps : Array Value) (w : World) : Prop where
  size : nt ≤ tmps.size
  frame : ∀ s fv, fget F s = some fv → FRel g H w tmps s fv
  heap : ∀ id hb, H[id]? = some hb → ∃ b o, BlkR g H w id hb b o
  dist : ∀ id id' hb b o b' o', H[id]? = some hb → hb.fz = false → id ≠ id' → g.ρ id = some (b, o) → g.ρ id' = some (b', o') → b ≠ b'
  rsome : ∀ id b o, g.ρ id = some (b, o) → id < H.length
  bdist : ∀ s s' b, g.β s = some b → g.β s' = some b → s = s'
  brho : ∀ s b id o, g.β s = some b → g.ρ id = some (b, o) → False
  bimm : ∀ s b, g.β s = some b → ¬ g.I b ∧ b < w.heap.size
  imm : ∀ b, g.I b → b < w.heap.size
  glob : ∀ n x, E.glob n = some x → g.I n ∧ ∃ vs, 0 < vs.length ∧ RC g.I w x vs ∧ At w n 0 vs

theorem Rel.env {E E' : Env} {nt : Nat} {g : Gh} {F : Frm} {H : Hp} {tmps : Array Value} {w : World} (e : E'.glob = E.glob) (h : Rel E nt g F H tmps w) : Rel E' nt g F H tmps w :=
  ⟨h.size, h.frame, h.heap, h.dist, h.rsome, h.bdist, h.brho, h.bimm, h.imm, fun n x hx => h.glob n x (by rw [← e]; exact hx)⟩

/-- Which blocks may be written: those of the evaluator's heap; and the frame's variables. -/
def MutH (g : Gh) (H : Hp) (b : Nat) : Prop := ∃ id hb o, H[id]? = some hb ∧ hb.fz = false ∧ g.ρ id = some (b, o)
def MutF (g : Gh) (b : Nat) : Prop := ∃ s, g.β s = some b

/-- The world has gone on. -/
structure Ext (M : Nat → Prop) (w w' : World) : Prop where
  os : w'.os = w.os
  tape : w'.tape = w.tape
  output : w'.output = w.output
  size : w.heap.size ≤ w'.heap.size
  kept : ∀ (b : Nat), b < w.heap.size → ¬ M b → w'.heap[b]? = w.heap[b]?
  shape : ∀ (b : Nat) (cur : Array Value) (T : TypeId), w.heap[b]? = some (Obj.cells cur T (0, 0)) → ∃ cur' : Array Value, w'.heap[b]? = some (Obj.cells cur' T (0, 0)) ∧ cur'.size = cur.size

/-- The evaluator's heap has gone on. -/
def HExt (g g' : Gh) (H H' : Hp) : Prop :=
  ∀ id hb, H[id]? = some hb → ∃ hb', H'[id]? = some hb' ∧ hb'.esz = hb.esz ∧ hb'.pu = hb.pu ∧
    (hb.rows.length < hb'.rows.length ∨ (hb.rows.length = hb'.rows.length ∧ g'.ρ id = g.ρ id))

theorem HExt.refl (g : Gh) (H : Hp) : HExt g g H H := fun _ hb h => ⟨hb, h, rfl, rfl, .inr ⟨rfl, rfl⟩⟩
theorem HExt.trans {a b c : Gh} {H1 H2 H3 : Hp} (h : HExt a b H1 H2) (k : HExt b c H2 H3) : HExt a c H1 H3 := by
  intro id hb e
  obtain ⟨hb2, e2, z2, p2, l2⟩ := h id hb e
  obtain ⟨hb3, e3, z3, p3, l3⟩ := k id hb2 e2
  refine ⟨hb3, e3, z3.trans z2, p3.trans p2, ?_⟩
  rcases l2 with l2 | ⟨l2, r2⟩ <;> rcases l3 with l3 | ⟨l3, r3⟩
  · exact .inl (by omega)
  · exact .inl (by omega)
  · exact .inl (by omega)
  · exact .inr ⟨by omega, r3.trans r2⟩

theorem At.keep {w w' : World} {b o : Nat} {vs : List Value} (h : At w b o vs) (e : w'.heap[b]? = w.heap[b]?) : At w' b o vs := by
  intro j u hj
  have := h j u hj
  simp only [World.cell?] at this ⊢
  rw [e]; exact this

/-- The blocks that nobody writes are as they were. -/
def Keeps (I I' : Nat → Prop) (w w' : World) : Prop := ∀ b, I b → I' b ∧ w'.heap[b]? = w.heap[b]?

mutual
theorem RC_keep {I I' : Nat → Prop} {w w' : World} (k : Keeps I I' w w') : ∀ (x : PV) (vs : List Value), RC I w x vs → RC I' w' x vs
  | .bool b, vs, h => by simpa only [RC] using h
  | .int q n, vs, h => by simpa only [RC] using h
  | .data rows, vs, h => by
    simp only [RC] at h ⊢
    obtain ⟨a, len, cap, e, l1, l2, l3, h⟩ := h
    refine ⟨a, len, cap, e, l1, l2, l3, h.imp id ?_⟩
    rintro ⟨b, o, esz, ea, hI, hz, hr⟩
    exact ⟨b, o, esz, ea, (k b hI).1, hz, RowsC_keep k rows esz b o hI hr⟩
  | .agg cs, vs, h => by
    simp only [RC] at h ⊢
    exact CellsC_keep k cs vs h
  | .nilp, vs, h | .nils, vs, h | .emp, vs, h | .mt _, vs, h | .nilf, vs, h => by simp [RC] at h
  | .ptr .., vs, h | .eptr .., vs, h | .own .., vs, h | .sub .., vs, h | .fn .., vs, h | .tup .., vs, h => by simp [RC] at h
theorem CellsC_keep {I I' : Nat → Prop} {w w' : World} (k : Keeps I I' w w') : ∀ (l : List PV) (vs : List Value), CellsC I w l vs → CellsC I' w' l vs
  | [], vs, h => by simpa only [CellsC] using h
  | x :: r, vs, h => by
    simp only [CellsC] at h ⊢
    obtain ⟨v, vr, e, o, h1, h2⟩ := h
    exact ⟨v, vr, e, o, RC_keep k x [v] h1, CellsC_keep k r vr h2⟩
theorem RowsC_keep {I I' : Nat → Prop} {w w' : World} (k : Keeps I I' w w') : ∀ (l : List PV) (esz b o : Nat), I b → RowsC I w l esz b o → RowsC I' w' l esz b o
  | [], _, _, _, _, _ => by simp only [RowsC]
  | x :: r, esz, b, o, hI, h => by
    simp only [RowsC] at h ⊢
    obtain ⟨⟨vs, hl, h1, h2⟩, h3⟩ := h
    exact ⟨⟨vs, hl, RC_keep k x vs h1, h2.keep (k b hI).2⟩, RowsC_keep k r esz b (o + esz) hI h3⟩
end

end Go.Pf
