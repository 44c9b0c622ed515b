/- The framework, part 23: an operation looks at its footprint alone, and writes nothing else. -/
import Derived.Test.YthlajkcfbpfmdaaFw2
namespace Go.Pf
open Go

def AgF (l : List Nat) (F F' : Frm) : Prop := ∀ s ∈ l, fget F' s = fget F s

theorem AgF_append {a b : List Nat} {F F' : Frm} : AgF (a ++ b) F F' ↔ AgF a F F' ∧ AgF b F F' := by
  simp only [AgF, List.mem_append]
  exact ⟨fun h => ⟨fun s hs => h s (.inl hs), fun s hs => h s (.inr hs)⟩, fun h s hs => hs.elim (h.1 s) (h.2 s)⟩

section
variable {E : Env} {F F' : Frm} {H H' H1 : Hp} {call : Nat → List PV → Hp → Option (PV × Hp)}

theorem ev_ag {x : Opd} (h : AgF x.slots F F') : ev E F' x = ev E F x := by
  cases x with
  | t s => simp only [ev, h s (by simp [Opd.slots])]
  | _ => rfl
theorem evV_ag {x : Opd} (h : AgF x.slots F F') : evV E F' x = evV E F x := by
  simp only [evV, ev_ag h]
theorem evInt_ag {x : Opd} (h : AgF x.slots F F') : evInt E F' x = evInt E F x := by
  simp only [evInt, evV_ag h]
theorem evO_ag {x : Option Opd} (h : AgF (slotsO x) F F') : evO E F' x = evO E F x := by
  cases x with
  | none => rfl
  | some x => simp only [evO, evInt_ag (show AgF x.slots F F' from h)]
theorem evs_ag : ∀ (l : List Opd), AgF (slotsL l) F F' → evs E F' l = evs E F l
  | [], _ => rfl
  | x :: r, h => by
    simp only [slotsL, AgF_append] at h
    simp only [evs, evV_ag h.1, evs_ag r h.2]
theorem fillP_ag : ∀ (l : List (Nat × Nat × Opd)) (cs : List PV), AgF (slotsP l) F F' → fillP E F' cs l = fillP E F cs l
  | [], _, _ => rfl
  | (o, z, x) :: r, cs, h => by
    simp only [slotsP, AgF_append] at h
    simp only [fillP, evV_ag h.1]
    split
    · split
      · exact fillP_ag r _ h.2
      · rfl
    · rfl
theorem fillR_ag {pu : Bool} {esz : Nat} : ∀ (l : List (Nat × Opd)) (rows : List PV) (H : Hp), AgF (slotsR l) F F' → fillR E F' pu esz rows H l = fillR E F pu esz rows H l
  | [], _, _, _ => rfl
  | (i, x) :: r, rows, H, h => by
    simp only [slotsR, AgF_append] at h
    simp only [fillR, evV_ag h.1]
    split
    · split
      · split
        · exact fillR_ag r _ _ h.2
        · rfl
      · rfl
    · rfl

theorem bp_ag {x : Opd} {s off : Nat} (h : AgF (bpOpd E F x) F F') (e : ev E F x = some (.bp s off)) : fget F' s = fget F s := by
  apply h
  simp [bpOpd, e]

/-- The frame: but for the footprint's slots nothing is looked at. -/
theorem opOut_frame {op : AOp} (h : AgF (fpOp E F H op).rd F F') : opOut E call F' H op = opOut E call F H op := by
  cases op <;> simp only [fpOp, AgF_append] at h <;> simp only [opOut]
  case mv x => simp only [evV_ag h]
  case mvD x => simp only [evV_ag h]
  case pick c a b => simp only [evV_ag h.1, evV_ag h.2.1, evV_ag h.2.2]
  case boxL x => simp only [evV_ag h]
  case boxH x => simp only [evV_ag h]
  case build ps => simp only [fillP_ag _ _ h]
  case buildSl ps => simp only [fillR_ag _ _ _ h]
  case buildN ps => simp only [fillR_ag _ _ _ h]
  case buildD ps => simp only [fillR_ag _ _ _ h]
  case load agg sz x =>
    rw [ev_ag h.1]
    split
    · rename_i s off e
      rw [bp_ag h.2 e]
    all_goals simp_all
  case store sz x y =>
    rw [evV_ag h.2.1, ev_ag h.1]
    split
    · split
      · rename_i s off e
        rw [bp_ag h.2.2 e]
      all_goals simp_all
    · rfl
  case bin x y => simp only [evV_ag h.1, evV_ag h.2]
  case eqB x y => simp only [evV_ag h.1, evV_ag h.2]
  case eqA x y => simp only [evV_ag h.1, evV_ag h.2]
  case eqN x => simp only [evV_ag h]
  case un x => simp only [evV_ag h]
  case conv x => simp only [evV_ag h]
  case mkFn a b => simp only [evs_ag _ h.1, evs_ag _ h.2]
  case mkSl l c => simp only [evInt_ag h.1, evInt_ag h.2]
  case slc x lo hi mx => simp only [evV_ag h.1, evO_ag h.2.1, evO_ag h.2.2.1, evO_ag h.2.2.2]
  case slcA x => simp only [ev_ag h]
  case fad x => simp only [ev_ag h.1]
  case fld x => simp only [evV_ag h]
  case iad x i => simp only [evV_ag h.1, evInt_ag h.2]
  case iadA x i => simp only [ev_ag h.1, evInt_ag h.2.1]
  case idx x i => simp only [evV_ag h.1, evInt_ag h.2]
  case ext x i => simp only [evV_ag h]
  case call f as => simp only [evV_ag h.1, evs_ag _ h.2]
  case len x => simp only [evV_ag h]
  case cap x => simp only [evV_ag h]
  case app s x => simp only [evV_ag h.1, evV_ag h.2]
  case appZ s n => simp only [evV_ag h.1, evInt_ag h.2]
  case clr x => simp only [evV_ag h]
  case minmax l => simp only [evs_ag _ h]
  case nilchk x => simp only [ev_ag h.1]

/-! The heap. -/

/-- The same blocks are written in both heaps, to the same. -/
structure EffI (ids : List Nat) (H H1 H' H1' : Hp) : Prop where
  inn : ∀ id ∈ ids, H1'[id]? = H1[id]?
  out : ∀ id, id ∉ ids → H1[id]? = H[id]? ∧ H1'[id]? = H'[id]?
  len : H1.length = H.length ∧ H1'.length = H'.length

theorem EffI.refl {ids : List Nat} (h : ∀ id ∈ ids, H'[id]? = H[id]?) : EffI ids H H H' H' := ⟨h, fun _ _ => ⟨rfl, rfl⟩, rfl, rfl⟩

theorem EffI.trans {ids : List Nat} {H1' H2 H2' : Hp} (h : EffI ids H H1 H' H1') (k : EffI ids H1 H2 H1' H2') : EffI ids H H2 H' H2' :=
  ⟨k.inn, fun id hi => ⟨(k.out id hi).1.trans (h.out id hi).1, (k.out id hi).2.trans (h.out id hi).2⟩, k.len.1.trans h.len.1, k.len.2.trans h.len.2⟩

theorem EffI.mono {ids ids' : List Nat} {H1' : Hp} (h : EffI ids H H1 H' H1') (hs : ∀ id ∈ ids, id ∈ ids') (ha : ∀ id ∈ ids', H'[id]? = H[id]?) : EffI ids' H H1 H' H1' := by
  refine ⟨fun id hi => ?_, fun id hi => h.out id (fun hx => hi (hs id hx)), h.len⟩
  by_cases hx : id ∈ ids
  · exact h.inn id hx
  · rw [(h.out id hx).1, (h.out id hx).2]; exact ha id hi

theorem EffI.set {ids : List Nat} {id : Nat} {b : HB} (ha : ∀ i ∈ ids, H'[i]? = H[i]?) (hi : id ∈ ids) : EffI ids H (H.set id b) H' (H'.set id b) := by
  refine ⟨fun k hk => ?_, fun k hk => ?_, by simp, by simp⟩
  · rw [List.getElem?_set, List.getElem?_set]
    have hlen : id < H'.length ↔ id < H.length := by
      have := ha id hi
      constructor <;> intro h1
      · rcases Nat.lt_or_ge id H.length with h2 | h2
        · exact h2
        · rw [List.getElem?_eq_none h2, List.getElem?_eq_getElem h1] at this; cases this
      · rcases Nat.lt_or_ge id H'.length with h2 | h2
        · exact h2
        · rw [List.getElem?_eq_none h2, List.getElem?_eq_getElem h1] at this; cases this
    split
    · simp only [hlen]
    · exact ha k hk
  · have hne : id ≠ k := fun e => hk (e ▸ hi)
    rw [List.getElem?_set_ne hne, List.getElem?_set_ne hne]; exact ⟨rfl, rfl⟩

theorem purify1_heap {p q : PV} (ha : ∀ id ∈ ids1 p, H'[id]? = H[id]?) (h : purify1 H p = some (q, H1)) : ∃ H1', purify1 H' p = some (q, H1') ∧ EffI (ids1 p) H H1 H' H1' := by
  cases p <;> simp only [purify1] at h ⊢ <;> first
    | (simp only [Option.some.injEq, Prod.mk.injEq] at h; obtain ⟨rfl, rfl⟩ := h; exact ⟨_, rfl, EffI.refl ha⟩)
    | (cases h; done)
    | skip
  case own id lo len ext cap =>
    have hid := ha id (by simp [ids1])
    rw [hid]
    split at h
    · rename_i b hb
      split at h
      · rename_i hc
        cases h
        exact ⟨_, if_pos hc, EffI.set ha (by simp [ids1])⟩
      · cases h
    · cases h

theorem purifyL_heap : ∀ (l ps : List PV) (H H' H1 : Hp), (∀ id ∈ idsL l, H'[id]? = H[id]?) → purifyL H l = some (ps, H1) → ∃ H1', purifyL H' l = some (ps, H1') ∧ EffI (idsL l) H H1 H' H1'
  | [], ps, H, H', H1, ha, h => by
    simp only [purifyL, Option.some.injEq, Prod.mk.injEq] at h
    obtain ⟨rfl, rfl⟩ := h
    exact ⟨_, rfl, EffI.refl ha⟩
  | x :: r, ps, H, H', H1, ha, h => by
    simp only [purifyL] at h
    split at h
    · rename_i y H2 hy
      split at h
      · rename_i ys H3 hys
        cases h
        have ha1 : ∀ id ∈ ids1 x, H'[id]? = H[id]? := fun id hi => ha id (by simp [idsL, hi])
        obtain ⟨H2', e2, k2⟩ := purify1_heap ha1 hy
        have k2' : EffI (idsL (x :: r)) H H2 H' H2' := k2.mono (fun id hi => by simp [idsL, hi]) ha
        obtain ⟨H3', e3, k3⟩ := purifyL_heap r ys H2 H2' _ (fun id hi => k2'.inn id (by simp [idsL, hi])) hys
        refine ⟨H3', by simp only [purifyL, e2, e3], k2'.trans (k3.mono (fun id hi => by simp [idsL, hi]) k2'.inn)⟩
      · cases h
    · cases h

theorem purify_heap {p q : PV} (ha : ∀ id ∈ idsV p, H'[id]? = H[id]?) (h : purify H p = some (q, H1)) : ∃ H1', purify H' p = some (q, H1') ∧ EffI (idsV p) H H1 H' H1' := by
  cases p with
  | agg cs =>
    simp only [purify, Option.map_eq_some_iff] at h ⊢
    obtain ⟨⟨ys, H2⟩, hys, e⟩ := h
    cases e
    obtain ⟨H1', e1, k⟩ := purifyL_heap cs ys H H' _ ha hys
    exact ⟨H1', ⟨⟨ys, H1'⟩, e1, rfl⟩, k⟩
  | _ => simp only [idsV] at ha ⊢; simp only [purify] at h ⊢; exact purify1_heap ha h

theorem purifyAll_noids : ∀ (l ps : List PV) (H2 : Hp), idsA l = [] → purifyAll [] l = some (ps, H2) → ∀ H, purifyAll H l = some (ps, H)
  | [], ps, H2, _, h, H => by
    simp only [purifyAll, Option.some.injEq, Prod.mk.injEq] at h
    obtain ⟨rfl, _⟩ := h
    rfl
  | x :: r, ps, H2, hi, h, H => by
    simp only [idsA, List.append_eq_nil_iff] at hi
    simp only [purifyAll] at h
    split at h
    · rename_i y H3 hy
      split at h
      · rename_i ys H4 hys
        cases h
        have hp : ∀ H, purify H x = some (y, H) := by
          intro H
          obtain ⟨H5, e5, k5⟩ := purify_heap (H' := H) (fun id hx => by rw [hi.1] at hx; cases hx) hy
          have : H5 = H := List.ext_getElem? fun k => (k5.out k (by rw [hi.1]; simp)).2
          rw [e5, this]
        have h3 : H3 = [] := by have := hp []; rw [hy] at this; cases this; rfl
        subst h3
        simp only [purifyAll, hp H, purifyAll_noids r ys _ hi.2 hys H]
      · cases h
    · cases h

/-- What an operation does to the heap, beside a heap that agrees with it. -/
structure Eff (p : FP) (H H1 H' H1' : Hp) : Prop where
  all : p.all = true → H1' = H1
  inn : p.all = false → ∀ id ∈ p.hw, H1'[id]? = H1[id]?
  out : p.all = false → ∀ id, id ∉ p.hw → H1[id]? = H[id]? ∧ H1'[id]? = H'[id]?
  push : p.push = true → H1'.length = H1.length
  len : p.push = false → p.all = false → H1.length = H.length ∧ H1'.length = H'.length

structure AgH (p : FP) (H H' : Hp) : Prop where
  ids : ∀ id, id ∈ p.hr ∨ id ∈ p.hw → H'[id]? = H[id]?
  push : p.push = true → H'.length = H.length
  all : p.all = true → H' = H

theorem Eff.same {p : FP} (ha : AgH p H H') : Eff p H H H' H' :=
  ⟨fun h => ha.all h, fun _ id hi => ha.ids id (.inr hi), fun _ _ _ => ⟨rfl, rfl⟩, fun h => ha.push h, fun _ _ => ⟨rfl, rfl⟩⟩

theorem Eff.ofI {p : FP} {H1' : Hp} (hall : p.all = false) (ha : AgH p H H') (k : EffI p.hw H H1 H' H1') : Eff p H H1 H' H1' :=
  ⟨fun h => (by rw [hall] at h; cases h), fun _ => k.inn, fun _ => k.out, fun h => by rw [k.len.1, k.len.2]; exact ha.push h, fun _ _ => k.len⟩

/-- A block more, behind. -/
theorem Eff.pushI {p : FP} {H1' : Hp} {b : HB} (hall : p.all = false) (hp : p.push = true) (hlen : H.length ∈ p.hw) (ha : AgH p H H') (k : EffI p.hw H H1 H' H1') : Eff p H (H1 ++ [b]) H' (H1' ++ [b]) := by
  have hl := ha.push hp
  obtain ⟨l1, l2⟩ := k.len
  refine ⟨fun h => (by rw [hall] at h; cases h), fun _ id hi => ?_, fun _ id hi => ?_, fun _ => by simp [l1, l2, hl], fun h => (by rw [hp] at h; cases h)⟩
  · rw [List.getElem?_append, List.getElem?_append, l1, l2, hl]
    split
    · exact k.inn id hi
    · rfl
  · have hne : id ≠ H.length := fun e => hi (e ▸ hlen)
    obtain ⟨h1, h2⟩ := k.out id hi
    rw [List.getElem?_append, List.getElem?_append, l1, l2, hl]
    by_cases hlt : id < H.length
    · rw [if_pos hlt, if_pos hlt]; exact ⟨h1, h2⟩
    · rw [if_neg hlt, if_neg hlt]
      have e1 : [b][id - H.length]? = none := List.getElem?_eq_none (by simp; omega)
      rw [e1, List.getElem?_eq_none (l := H) (by omega), List.getElem?_eq_none (l := H') (by omega)]
      exact ⟨rfl, rfl⟩

theorem fillR_heap {pu : Bool} {esz : Nat} : ∀ (l : List (Nat × Opd)) (rows rows' : List PV) (H H' H1 : Hp), (∀ id ∈ idsParts E F l, H'[id]? = H[id]?) → fillR E F pu esz rows H l = some (rows', H1) →
    ∃ H1', fillR E F pu esz rows H' l = some (rows', H1') ∧ EffI (idsParts E F l) H H1 H' H1'
  | [], rows, rows', H, H', H1, ha, h => by
    simp only [fillR, Option.some.injEq, Prod.mk.injEq] at h
    obtain ⟨rfl, rfl⟩ := h
    exact ⟨_, rfl, EffI.refl ha⟩
  | (i, x) :: r, rows, rows', H, H', H1, ha, h => by
    simp only [fillR] at h ⊢
    split at h
    · rename_i p hp
      have hids : idsOpd E F x = idsV p := by
        unfold evV at hp
        split at hp
        · rename_i q hq; cases hp; simp [idsOpd, hq]
        · cases hp
      have key : ∀ {q H2}, (if pu then purify H p else some (p, H)) = some (q, H2) → ∃ H2', (if pu then purify H' p else some (p, H')) = some (q, H2') ∧ EffI (idsParts E F ((i, x) :: r)) H H2 H' H2' := by
        intro q H2 hq
        cases pu
        · simp only [Bool.false_eq_true, if_false, Option.some.injEq, Prod.mk.injEq] at hq ⊢
          obtain ⟨rfl, rfl⟩ := hq
          exact ⟨H', ⟨rfl, rfl⟩, EffI.refl ha⟩
        · simp only [if_true] at hq ⊢
          obtain ⟨H2', e, k⟩ := purify_heap (H' := H') (fun id hi => ha id (by simp [idsParts, hids, hi])) hq
          exact ⟨H2', e, k.mono (fun id hi => by simp [idsParts, hids, hi]) ha⟩
      split at h
      · rename_i q H2 hq
        split at h
        · rename_i hc
          obtain ⟨H2', e2, k2⟩ := key hq
          obtain ⟨H3', e3, k3⟩ := fillR_heap r _ rows' H2 H2' H1 (fun id hi => k2.inn id (by simp [idsParts, hi])) h
          refine ⟨H3', ?_, k2.trans (k3.mono (fun id hi => by simp [idsParts, hi]) k2.inn)⟩
          rw [e2]
          simp only [hc]
          exact e3
        · cases h
      · cases h
    · cases h

theorem idsOpd_evV {x : Opd} {p : PV} (h : evV E F x = some p) : idsOpd E F x = idsV p := by
  unfold evV at h
  split at h
  · rename_i q hq; cases h; simp [idsOpd, hq]
  · cases h

theorem rowsOf_heap {p : PV} (ha : ∀ id ∈ idsV p, H'[id]? = H[id]?) : rowsOf H' p = rowsOf H p := by
  cases p <;> simp only [rowsOf]
  case own id lo len ext cap => rw [ha id (by simp [idsV, ids1])]

theorem srcOk_heap {p : PV} {pu : Bool} (ha : ∀ id ∈ idsV p, H'[id]? = H[id]?) : srcOk H' pu p = srcOk H pu p := by
  cases p <;> simp only [srcOk]
  case own id lo len ext cap => rw [ha id (by simp [idsV, ids1])]

theorem sliceV_heap {p : PV} {esz : Nat} {lo hi mx : Option Int} (ha : ∀ id ∈ idsV p, H'[id]? = H[id]?) : sliceV H' esz lo hi mx p = sliceV H esz lo hi mx p := by
  cases p <;> simp only [sliceV]
  case own id lo0 len ext cap => rw [ha id (by simp [idsV, ids1])]

theorem appFresh_heap {p : FP} {pu : Bool} {esz bytes : Nat} {rows : List PV} {r : PV} (hall : p.all = false) (hp : p.push = true) (hlen : H.length ∈ p.hw) (ha : AgH p H H') (h : appFresh H pu esz bytes rows = some (r, H1)) :
    ∃ H1', appFresh H' pu esz bytes rows = some (r, H1') ∧ Eff p H H1 H' H1' := by
  unfold appFresh at h ⊢
  split at h
  · rename_i hc
    cases h
    rw [if_pos hc, ha.push hp]
    exact ⟨_, rfl, Eff.pushI hall hp hlen ha (EffI.refl fun id hi => ha.ids id (.inr hi))⟩
  · cases h

theorem appZ_heap {p : FP} {pu : Bool} {esz bytes k : Nat} {z s r : PV} (hall : p.all = false) (hp : p.push = true) (hlen : H.length ∈ p.hw) (ha : AgH p H H') (h : appZ H pu esz bytes z s k = some (r, H1)) :
    ∃ H1', appZ H' pu esz bytes z s k = some (r, H1') ∧ Eff p H H1 H' H1' := by
  unfold appZ at h ⊢
  split at h
  · split at h
    · rename_i he; cases h; rw [if_pos he]; exact ⟨_, rfl, Eff.same ha⟩
    · rename_i he; rw [if_neg he]; exact appFresh_heap hall hp hlen ha h
  · cases h

theorem clrV_heap {p : FP} {pu : Bool} {esz : Nat} {z s : PV} (hall : p.all = false) (hs : ∀ id ∈ idsV s, id ∈ p.hw) (ha : AgH p H H') (h : clrV H pu esz z s = some H1) :
    ∃ H1', clrV H' pu esz z s = some H1' ∧ Eff p H H1 H' H1' := by
  unfold clrV at h ⊢
  split at h
  · cases h; exact ⟨_, rfl, Eff.same ha⟩
  · cases h; exact ⟨_, rfl, Eff.same ha⟩
  · cases h; exact ⟨_, rfl, Eff.same ha⟩
  · rename_i id lo len ext cap
    have hm : id ∈ p.hw := hs id (by simp [idsV, ids1])
    split at h
    · cases h; exact ⟨_, rfl, Eff.same ha⟩
    · rw [ha.ids id (.inr hm)]
      split at h
      · rename_i b hb
        split at h
        · rename_i hc
          cases h
          rw [if_pos hc]
          exact ⟨_, rfl, Eff.ofI hall ha (EffI.set (fun k hk => ha.ids k (.inr hk)) hm)⟩
        · cases h
      · cases h
  · cases h

theorem appV_heap {p : FP} {pu : Bool} {esz bytes : Nat} {s x r : PV} (hall : p.all = false) (hp : p.push = true) (hlen : H.length ∈ p.hw) (hs : ∀ id ∈ idsV s, id ∈ p.hw) (hx : ∀ id ∈ idsV x, id ∈ p.hw) (ha : AgH p H H') (h : appV H pu esz bytes s x = some (r, H1)) :
    ∃ H1', appV H' pu esz bytes s x = some (r, H1') ∧ Eff p H H1 H' H1' := by
  have has : ∀ id ∈ idsV s, H'[id]? = H[id]? := fun id hi => ha.ids id (.inr (hs id hi))
  have hax : ∀ id ∈ idsV x, H'[id]? = H[id]? := fun id hi => ha.ids id (.inr (hx id hi))
  unfold appV at h ⊢
  rw [rowsOf_heap hax, srcOk_heap hax]
  split at h
  · cases h
  · rename_i ys hys
    split at h
    · rename_i hc
      rw [if_pos hc]
      cases s with
      | nils =>
        simp only [] at h ⊢
        split at h
        · rename_i he; cases h; rw [if_pos he]; exact ⟨_, rfl, Eff.same ha⟩
        · rename_i he; rw [if_neg he]; exact appFresh_heap hall hp hlen ha h
      | emp =>
        simp only [] at h ⊢
        split at h
        · rename_i he; cases h; rw [if_pos he]; exact ⟨_, rfl, Eff.same ha⟩
        · rename_i he; rw [if_neg he]; exact appFresh_heap hall hp hlen ha h
      | own id lo len ext cap =>
        simp only [] at h ⊢
        rw [has id (by simp [idsV, ids1])]
        split at h
        · rename_i b hb
          split at h
          · rename_i hc2
            rw [if_pos hc2]
            split at h
            · rename_i he; cases h; rw [if_pos he]; exact ⟨_, rfl, Eff.same ha⟩
            · rename_i he
              rw [if_neg he]
              have hset : ∀ b', Eff p H (H.set id b') H' (H'.set id b') := fun b' => Eff.ofI hall ha (EffI.set (fun k hk => ha.ids k (.inr hk)) (hs id (by simp [idsV, ids1])))
              unfold appOwn at h ⊢
              split at h
              · split at h
                · rename_i h1
                  split at h
                  · rename_i h2; cases h; rw [if_pos h1, if_pos h2]; exact ⟨_, rfl, hset _⟩
                  · cases h
                · rename_i h1
                  rw [if_neg h1]
                  exact appFresh_heap hall hp hlen ha h
              · split at h
                · cases h
                · rename_i h1
                  rw [if_neg h1]
                  split at h
                  · rename_i h2; cases h; rw [if_pos h2]; exact ⟨_, rfl, hset _⟩
                  · rename_i h2
                    split at h
                    · rename_i h3; cases h; rw [if_neg h2, if_pos h3]; exact ⟨_, rfl, hset _⟩
                    · cases h
          · cases h
        · cases h
      | _ => simp only [] at h; cases h
    · cases h
end
end Go.Pf
