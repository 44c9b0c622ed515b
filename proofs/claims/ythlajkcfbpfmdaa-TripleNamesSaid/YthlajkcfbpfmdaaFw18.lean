/- The framework, part 18: every operation but a call. -/
import Derived.Test.YthlajkcfbpfmdaaFw17
namespace Go.Pf
open Go Go.RowKit
section
variable {P : Program} {E : Env} {nt : Nat} {g g' : Gh} {F : Frm} {H H' : Hp} {a : Act} {tmps : Array Value} {w w' : World} {o : Oper} {out : Out}

def isDfr : AOp → Bool
  | .dfr _ => true
  | _ => false
def isCall : AOp → Bool
  | .call _ _ => true
  | _ => false

theorem opOut_bad {call} : opOut E call F H .bad = none := rfl

theorem outBox (hE : ∀ row, out.x ≠ some (.box row)) (h : OpR E nt g F H a.tmps w out ((execOp a.eval o).run P w)) {dst : Option Nat} {F' : Frm} (hd : ∀ d, dst = some d → d < nt) (hp : putDst (putBx F out.bx) dst out.x = some F') :
    StepR E nt g H a w dst F' out.h ((execOp a.eval o).run P w) := StepR.of h hd hp hE

theorem compBin_sound (hr : Rel E nt g F H a.tmps w) {op : BinOp} {t t' : TypeId} {x y : Operand} (ho : o.op = .binOp op t x y t') {call} (h : opOut E call F H (compBin P op t x y) = some out) : OpR E nt g F H a.tmps w out ((execOp a.eval o).run P w) := by
  unfold compBin at h
  split at h
  · rename_i x' y' hx hy
    split at h
    · exact op_bin hr ho hx hy h
    · rename_i hu
      split at h
      · exact op_eqB hr ho (.inl ⟨rfl, rfl⟩) hu hx hy h
      · exact op_eqB hr ho (.inr ⟨rfl, rfl⟩) hu hx hy h
      · cases h
    · rename_i fs hu
      split at h
      · rename_i idx hidx
        split at h
        · rename_i hk
          simp only [Bool.and_eq_true, Bool.not_eq_true'] at hk
          split at h
          · exact op_eqA hr ho (.inl ⟨rfl, rfl⟩) hidx hk.1 (.inl ⟨fs, hu⟩) hk.2 hx hy h
          · exact op_eqA hr ho (.inr ⟨rfl, rfl⟩) hidx hk.1 (.inl ⟨fs, hu⟩) hk.2 hx hy h
          · cases h
        · cases h
      · cases h
    · rename_i n e hu
      split at h
      · rename_i idx hidx
        split at h
        · rename_i hk
          simp only [Bool.and_eq_true, Bool.not_eq_true'] at hk
          split at h
          · exact op_eqA hr ho (.inl ⟨rfl, rfl⟩) hidx hk.1 (.inr ⟨n, e, hu⟩) hk.2 hx hy h
          · exact op_eqA hr ho (.inr ⟨rfl, rfl⟩) hidx hk.1 (.inr ⟨n, e, hu⟩) hk.2 hx hy h
          · cases h
        · cases h
      · cases h
    · rename_i e hu
      split at h
      · split at h
        · rename_i hn; exact op_eqN hr ho (.inl ⟨rfl, rfl⟩) hu (.inl ⟨rfl, hn⟩) hx h
        · split at h
          · rename_i hn; exact op_eqN hr ho (.inl ⟨rfl, rfl⟩) hu (.inr ⟨rfl, hn⟩) hy h
          · cases h
      · split at h
        · rename_i hn; exact op_eqN hr ho (.inr ⟨rfl, rfl⟩) hu (.inl ⟨rfl, hn⟩) hx h
        · split at h
          · rename_i hn; exact op_eqN hr ho (.inr ⟨rfl, rfl⟩) hu (.inr ⟨rfl, hn⟩) hy h
          · cases h
      · cases h
    · cases h
  · cases h

theorem opds_single {l : List Operand} {x' : Opd} (h : opds l = some [x']) : ∃ x, l = [x] ∧ opd x = some x' := by
  cases l with
  | nil => simp [opds] at h
  | cons x r =>
    simp only [opds] at h
    split at h
    · rename_i a l h1 h2
      simp only [Option.some.injEq, List.cons.injEq] at h
      obtain ⟨rfl, rfl⟩ := h
      cases r with
      | nil => exact ⟨x, rfl, h1⟩
      | cons y r =>
        simp only [opds] at h2
        split at h2 <;> simp at h2
    · cases h

theorem opds_pair {l : List Operand} {x' y' : Opd} (h : opds l = some [x', y']) : ∃ x y, l = [x, y] ∧ opd x = some x' ∧ opd y = some y' := by
  cases l with
  | nil => simp [opds] at h
  | cons x r =>
    simp only [opds] at h
    split at h
    · rename_i a l h1 h2
      simp only [Option.some.injEq, List.cons.injEq] at h
      obtain ⟨rfl, rfl⟩ := h
      obtain ⟨y, rfl, hy⟩ := opds_single h2
      exact ⟨x, y, rfl, h1, hy⟩
    · cases h

theorem compBuiltin_sound (hr : Rel E nt g F H a.tmps w) {c : Call} {b : Builtin} (ho : o.op = .call c) (hc : c.callee = .builtin b) {call} (h : opOut E call F H (compBuiltin P b c.argTypes c.args.toList) = some out) : OpR E nt g F H a.tmps w out ((execOp a.eval o).run P w) := by
  unfold compBuiltin at h
  split at h
  · rename_i x' hx
    obtain ⟨x, hargs, hx'⟩ := opds_single hx
    split at h
    · rename_i e hu
      cases ht : c.argTypes[0]? with
      | none => rw [ht] at hu; simp at hu
      | some t =>
        rw [ht] at hu
        exact op_len hr ho hc hargs ht hu hx' h
    · cases h
  · rename_i x' hx
    obtain ⟨x, hargs, hx'⟩ := opds_single hx
    split at h
    · rename_i e hu
      cases ht : c.argTypes[0]? with
      | none => rw [ht] at hu; simp at hu
      | some t =>
        rw [ht] at hu
        exact op_cap hr ho hc hargs ht hu hx' h
    · cases h
  · rename_i s' x' hx
    obtain ⟨s, x, hargs, hs', hx'⟩ := opds_pair hx
    split at h
    · rename_i t t' hts
      split at h
      · rename_i htt; subst htt
        split at h
        · rename_i e hu
          split at h
          · rename_i sz by_ pu z hsz hby hz
            exact op_app hr ho hc hargs hts hu hsz hby hz hs' hx' h
          · cases h
        · cases h
      · split at h
        · rename_i e k hu hk
          split at h
          · rename_i sz by_ pu z hsz hby hz
            exact op_appZ hr ho hc hargs hts hu hk hsz hby hz hs' hx' h
          · cases h
        · cases h
    · cases h
  · rename_i x' hx
    obtain ⟨x, hargs, hx'⟩ := opds_single hx
    split at h
    · rename_i t ht
      split at h
      · rename_i e hu
        split at h
        · rename_i sz pu z hsz hz
          exact op_clr hr ho hc hargs ht hu hsz hz hx' h
        · cases h
      · cases h
    · cases h
  · rename_i l hl
    exact op_minmax (mx := true) hr ho hc hl h
  · rename_i l hl
    exact op_minmax (mx := false) hr ho hc hl h
  · cases h

theorem op_sidx (hr : Rel E nt g F H a.tmps w) {t : TypeId} {x y : Operand} {y' : Opd} {l : List PV} (ho : o.op = .index t x y) (hu : P.underlying t = some .string) (hl : strOf x = some l) (hy : opd y = some y') {call}
    (h : opOut E call F H (.idx false l.length 1 (.c (.agg l)) y') = some out) : OpR E nt g F H a.tmps w out ((execOp a.eval o).run P w) := by
  unfold strOf at hl
  split at hl
  · rename_i s
    cases hl
    simp only [opOut] at h
    split at h
    · rename_i cs m hp hm
      have hcs : cs = s.data.toList.map fun b => PV.int .u8 b.toNat := by simpa [evV, ev] using hp.symm
      split at h
      · rename_i hbd
        split at h
        · rename_i p hpp
          obtain ⟨k, e2, _⟩ := evInt_sound hr hy hm
          have hlt : m.toNat < s.data.size := by
            have := hbd.2; simp only [List.length_map, Array.length_toList] at this; omega
          have hpe : p = PV.int .u8 ((s.data[m.toNat]'hlt).toNat : Int) := by
            simp only [partOf, PV.cells, hcs, Nat.mul_one, List.getElem?_map, Array.getElem?_toList, Bool.false_eq_true, if_false] at hpp
            rw [Array.getElem?_eq_getElem hlt] at hpp
            simpa using hpp.symm
          have hsg : s[m.toNat]? = some (s.data[m.toNat]'hlt) := by
            have : m.toNat < s.size := hlt
            simp [this]; rfl
          rw [outV_eq h, hpe]
          refine OpR.val hr ?_ (show VR g H w (.int .u8 ((s.data[m.toNat]'hlt).toNat : Int)) (.int .u8 ((s.data[m.toNat]'hlt).toNat : Int)) from ?_)
          · have e1 : a.eval (.const (.string s)) = .string s := rfl
            simp [execOp, ho, Instr.index, asIntOf, run_underlying hu, e1, e2, hbd.1, hsg]
          · simp only [VR, inK]
            have := (s.data[m.toNat]'hlt).toNat_lt
            have h0 : IntKind.u8.min = 0 := by decide
            have h1 : IntKind.u8.max = 255 := by decide
            exact ⟨trivial, by rw [h0]; omega, by rw [h1]; omega⟩
        · cases h
      · cases h
    · cases h
  · cases hl

/-- Every operation but a call. -/
theorem op_sound (hr : Rel E nt g F H a.tmps w) {loc : List Nat} {call} {F' : Frm} (hnc : isCall (compOp P loc o) = false) (hnd : isDfr (compOp P loc o) = false) (h : opOut E call F H (compOp P loc o) = some out) (hd : ∀ d, o.dst = some d → d < nt) (hp : putDst (putBx F out.bx) o.dst out.x = some F') :
    StepR E nt g H a w o.dst F' out.h ((execOp a.eval o).run P w) := by
  have fin : OpR E nt g F H a.tmps w out ((execOp a.eval o).run P w) → (∀ row, out.x ≠ some (.box row)) → StepR E nt g H a w o.dst F' out.h ((execOp a.eval o).run P w) := fun h1 h2 => StepR.of h1 hd hp h2
  have nb : OpR E nt g F H a.tmps w out ((execOp a.eval o).run P w) → StepR E nt g H a w o.dst F' out.h ((execOp a.eval o).run P w) := by
    intro h1
    refine fin h1 fun row e => ?_
    obtain ⟨v, w', g', _, _, _, hx⟩ := h1
    rw [e] at hx; exact hx
  unfold compOp at h hnc hnd
  split at h
  · rename_i x ho
    split at h
    · rename_i x' hx
      split at h
      · exact nb (op_moveD hr (.inl ho) hx h)
      · exact nb (op_move hr (.inl ho) hx h)
    · cases h
  · rename_i x ho
    split at h
    · rename_i x' hx
      split at h
      · exact nb (op_moveD hr (.inr ho) hx h)
      · exact nb (op_move hr (.inr ho) hx h)
    · cases h
  · rename_i c x y ho
    split at h
    · rename_i c' x' y' hc hx hy; exact nb (op_pick hr ho hc hx hy h)
    · cases h
  · rename_i e ho
    split at h
    · rename_i d hdst
      split at h
      · split at h
        · rename_i z hz
          simp only [opOut, Option.some.injEq] at h
          subst h
          rw [hdst] at hp ⊢
          exact step_allocL hr ho hz (hd d hdst) hp
        · cases h
      · split at h
        · rename_i pu z sz hz hs; exact nb (op_allocH hr ho hz hs h)
        · cases h
    · cases h
  · rename_i e x ho
    split at h
    · rename_i d x' hdst hx
      split at h
      · simp only [opOut] at h
        split at h
        · rename_i p hpv
          split at h
          · rename_i hone
            simp only [Option.some.injEq] at h
            subst h
            rw [hdst] at hp ⊢
            exact step_boxL hr ho hx hpv hone (hd d hdst) hp
          · cases h
        · cases h
      · split at h
        · rename_i pu z sz hz hs; exact nb (op_boxH hr ho hs hx h)
        · cases h
    · cases h
  · rename_i t parts ho
    split at h
    · rename_i z fs hz hu
      split at h
      · rename_i hinfo
        split at h
        · rename_i ps hps; exact nb (op_build_struct hr ho hz hu hinfo hps h)
        · cases h
      · cases h
    · rename_i z n e hz hu
      split at h
      · rename_i i hi
        split at h
        · rename_i ps hps; exact nb (op_build_array hr ho hz hu hi hps h)
        · cases h
      · cases h
    · cases h
  · rename_i t len parts ho
    split at h
    · rename_i e hu
      split at h
      · rename_i sz pu z ps hs hz hps
        split at h
        · rename_i hc
          split at h
          · rename_i hp2; exact nb (op_buildD hr ho hu hs hz hp2.1 hps hc.1 hc.2 h)
          · split at h
            · exact nb (op_buildN hr ho hu hs hz hps hc.1 hc.2 h)
            · exact nb (op_buildSl hr ho hu hs hz hps hc.1 hc.2 h)
        · cases h
      · cases h
    · cases h
  · rename_i t x ho
    split at h
    · rename_i gg i x' hg hi hx; exact nb (op_load hr ho hg hi hx h)
    · cases h
  · rename_i t x y ho
    split at h
    · rename_i i x' y' hi hx hy; exact nb (op_store hr ho hi hx hy h)
    · cases h
  · rename_i x ho
    split at h
    · rename_i x' hx; exact nb (op_nilchk hr ho hx h)
    · cases h
  · rename_i c ho
    split at h
    · rename_i n hds hc
      simp only [ho, hc, hds, isDfr] at hnd
      cases hnd
    · cases h
  · rename_i op t x y t' ho; exact nb (compBin_sound hr ho h)
  · rename_i op t x ho
    split at h
    · rename_i x' hx; exact nb (op_un hr ho hx h)
    · cases h
  · rename_i s d x ho
    split at h
    · rename_i ds k x' hs hdd hx; exact nb (op_conv hr ho hs hdd hx h)
    · cases h
  · rename_i f x y ho
    split at h
    · rename_i x' y' hx hy; exact nb (op_mkFn hr ho hx hy h)
    · cases h
  · rename_i t x y ho
    split at h
    · rename_i e x' y' hu hx hy
      split at h
      · rename_i sz by_ pu z hs hby hz
        split at h
        · rename_i n hm; exact nb (op_mkD hr ho hu hs hby hz hx hy hm h)
        · exact nb (op_mkSl hr ho hu hs hby hz hx hy h)
      · cases h
    · cases h
  · rename_i t x lo hi mx ho
    split at h
    · rename_i e x' l' h' m' hu hx hl hh hm
      split at h
      · rename_i sz hs; exact nb (op_slc hr ho hu hs hx hl hh hm h)
      · cases h
    · rename_i m e x' hu hx hl hh hm
      have opdO_none : ∀ {y : Option Operand}, opdO y = some none → y = none := fun {y} e => by
        cases y with
        | none => rfl
        | some y => simp only [opdO] at e; split at e <;> cases e
      obtain rfl := opdO_none hl
      obtain rfl := opdO_none hh
      obtain rfl := opdO_none hm
      split at h
      · rename_i sz hs; exact nb (op_slcA hr ho hu hs hx h)
      · cases h
    · cases h
  · rename_i s x f ho
    split at h
    · rename_i fs x' hu hx
      split at h
      · rename_i fl hf
        split at h
        · rename_i sz hs; exact nb (op_fad hr ho hu hf hs hx h)
        · cases h
      · cases h
    · cases h
  · rename_i t x f ho
    split at h
    · rename_i fs x' hu hx
      split at h
      · rename_i fl hf
        split at h
        · rename_i gg i hg hi; exact nb (op_fld hr ho hu hf hg hi hx h)
        · cases h
      · cases h
    · cases h
  · rename_i t x y ho
    split at h
    · rename_i e x' y' hu hx hy
      split at h
      · rename_i sz hs; exact nb (op_iad hr ho hu hs hx hy h)
      · cases h
    · rename_i n e x' y' hu hx hy
      split at h
      · rename_i sz hs; exact nb (op_iadA hr ho hu hs hx hy h)
      · cases h
    · cases h
  · rename_i t x y ho
    split at h
    · rename_i n e x' y' hu hx hy
      split at h
      · rename_i gg i hg hi; exact nb (op_idx hr ho hu hg hi hx hy h)
      · cases h
    · rename_i y' hu hy
      split at h
      · rename_i l hl; exact nb (op_sidx hr ho hu hl hy h)
      · cases h
    · cases h
  · rename_i x i ho
    split at h
    · rename_i x' hx; exact nb (op_ext hr ho hx h)
    · cases h
  · rename_i c ho
    split at h
    · rename_i f hc
      split at h
      · rename_i f' as' hf has
        rw [ho] at hnc
        simp only [hc, hf, has] at hnc
        simp [isCall] at hnc
      · cases h
    · rename_i b hc; exact nb (compBuiltin_sound hr ho hc h)
    · cases h
  · cases h
end
end Go.Pf
