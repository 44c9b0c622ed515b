/- The framework, part 24: an operation beside a heap that agrees; the steps of a region may change places. -/
import Derived.Test.YthlajkcfbpfmdaaFw23
import Derived.Test.YthlajkcfbpfmdaaFw22
namespace Go.Pf
open Go

section
variable {E : Env} {F F' : Frm} {H H' H1 : Hp} {call : Nat → List PV → Hp → Option (PV × Hp)}

theorem outV_inv {p : PV} {out : Out} (h : outV p H = some out) : out = ⟨some (.v p), none, H⟩ := by
  simp only [outV, Option.some.injEq] at h; exact h.symm

theorem ids1_sub {p : PV} {id : Nat} (h : id ∈ ids1 p) : id ∈ idsV p := by cases p <;> first | exact h | simp [ids1] at h
theorem leafV {p : FP} {x : PV} {out : Out} (ha : AgH p H H') (h : outV x H = some out) : ∃ H1', outV x H' = some ⟨out.x, out.bx, H1'⟩ ∧ Eff p H out.h H' H1' := by
  rw [outV_inv h]; exact ⟨H', rfl, Eff.same ha⟩

theorem idsA_own {v : PV} {p : Nat × PV} (hv : locY v = some p) : ∀ (l : List PV) (j : Nat), l[j]? = some v → idsA l ≠ []
  | [], j, e => by simp at e
  | x :: r, 0, e => by
    simp at e; subst e
    cases x <;> simp [locY] at hv <;> simp [idsA, idsV, ids1]
  | x :: r, j + 1, e => by
    simp at e
    simp only [idsA]
    intro h
    exact idsA_own hv r j e (List.append_eq_nil_iff.1 h).2
theorem locOf_noids {n : Nat} {first captured av : List PV} (h : idsA (first ++ av ++ captured) = []) : locOf E (.fn (.func n) first captured) av = none := by
  unfold locOf
  simp only
  cases E.lo n with
  | none => rfl
  | some j =>
    simp only
    split
    · rename_i hj
      split
      · rename_i hy; exact absurd h (idsA_own hy _ _ hj)
      · rfl
    · rfl
theorem callV_quiet {f : Opd} {as : List Opd} {fv : PV} {av : List PV} {r : PV} {H1 : Hp} (hq : quietCall E F f as = true) (hf : evV E F f = some fv) (hav : evs E F as = some av) (hc : callV E call fv av H = some (r, H1)) : H1 = H ∧ ∀ H', callV E call fv av H' = some (r, H') := by
  unfold quietCall at hq
  rw [hf, hav] at hq
  split at hq
  · rename_i n first captured vs h1 h2
    cases h1; cases h2
    simp only [Bool.and_eq_true, List.isEmpty_iff, Bool.or_eq_true, Bool.not_eq_true'] at hq
    obtain ⟨hrb, hi, hs⟩ := hq
    have key : ∃ ps H2, purifyAll [] (first ++ av ++ captured) = some (ps, H2) ∧ ∃ r', pureRes E call n ps = some r' := by
      rcases hs with hs | hs
      · simp only [callV, locOf_noids hi, callV0, hrb, Bool.false_eq_true, if_false] at hc
        split at hc
        · rename_i x hx
          split at hx
          · rename_i as' H3 hp
            split at hx
            · rename_i r' hr'
              have : ∃ H2, purifyAll [] (first ++ av ++ captured) = some (as', H2) := by
                have hgo : ∀ (l ps : List PV) (H H2 : Hp), idsA l = [] → purifyAll H l = some (ps, H2) → ∃ H3, purifyAll [] l = some (ps, H3) := by
                  intro l
                  induction l with
                  | nil => intro ps H H2 _ e; simp only [purifyAll, Option.some.injEq, Prod.mk.injEq] at e; exact ⟨[], by simp [purifyAll, e.1]⟩
                  | cons x r ih =>
                    intro ps H H2 hi e
                    simp only [idsA, List.append_eq_nil_iff] at hi
                    simp only [purifyAll] at e
                    split at e
                    · rename_i y H4 hy
                      split at e
                      · rename_i ys H5 hys
                        cases e
                        obtain ⟨H6, e6, k6⟩ := purify_heap (H' := []) (fun id hx => by rw [hi.1] at hx; cases hx) hy
                        have h6 : H6 = [] := List.eq_nil_of_length_eq_zero (by rw [k6.len.2]; rfl)
                        subst h6
                        obtain ⟨H7, e7⟩ := ih ys _ _ hi.2 hys
                        exact ⟨H7, by simp only [purifyAll, e6, e7]⟩
                      · cases e
                    · cases e
                exact hgo _ _ _ _ hi hp
              obtain ⟨H2, h2⟩ := this
              exact ⟨as', H2, h2, r', hr'⟩
            · cases hx
          · cases hx
        · rw [if_pos hs] at hc; cases hc
      · split at hs
        · rename_i ps H2 hp
          obtain ⟨r', hr'⟩ := Option.isSome_iff_exists.1 hs
          exact ⟨ps, H2, hp, r', by simp only [pureRes, hr']⟩
        · cases hs
    obtain ⟨ps, H2, hp, r', hr'⟩ := key
    have all : ∀ H, callV E call (.fn (.func n) first captured) av H = some (r', H) := by
      intro H
      have := purifyAll_noids _ _ _ hi hp H
      simp only [callV, locOf_noids hi, callV0, hrb, Bool.false_eq_true, if_false, this, hr']
      cases r'.scalar <;> rfl
    rw [all H] at hc
    cases hc
    exact ⟨rfl, all⟩
  · cases hq

theorem opOut_heap {op : AOp} {out : Out} (ha : AgH (fpOp E F H op) H H') (h : opOut E call F H op = some out) : ∃ H1', opOut E call F H' op = some ⟨out.x, out.bx, H1'⟩ ∧ Eff (fpOp E F H op) H out.h H' H1' := by
  have single : ∀ {x bx}, out = ⟨x, bx, H⟩ → (∃ H1', (some ⟨x, bx, H'⟩ : Option Out) = some ⟨out.x, out.bx, H1'⟩ ∧ Eff (fpOp E F H op) H out.h H' H1') := by
    rintro x bx rfl; exact ⟨H', rfl, Eff.same ha⟩
  have shut : ∀ {o : Out}, some o = some out → o = out := fun e => by cases e; rfl
  cases op
  case allocH pu esz z =>
    simp only [opOut, Option.some.injEq] at h ⊢
    subst h
    have hl := ha.push rfl
    rw [hl]
    exact ⟨_, rfl, Eff.pushI rfl rfl (by simp [fpOp]) ha (EffI.refl fun id hi => ha.ids id (.inr hi))⟩
  case boxH pu esz x =>
    simp only [opOut] at h ⊢
    split at h
    · rename_i p hp
      have hids := idsOpd_evV hp
      have key : ∀ {q H2}, (if pu then purify H p else some (p, H)) = some (q, H2) → ∃ H2', (if pu then purify H' p else some (p, H')) = some (q, H2') ∧ EffI (fpOp E F H (.boxH pu esz x)).hw H H2 H' H2' := by
        intro q H2 hq
        cases pu
        · simp only [Bool.false_eq_true, if_false, Option.some.injEq, Prod.mk.injEq] at hq ⊢
          obtain ⟨rfl, rfl⟩ := hq
          exact ⟨H', ⟨rfl, rfl⟩, EffI.refl fun id hi => ha.ids id (.inr hi)⟩
        · simp only [if_true] at hq ⊢
          obtain ⟨H2', e, k⟩ := purify_heap (H' := H') (fun id hi => ha.ids id (.inr (by simp [fpOp, hids, hi]))) hq
          exact ⟨H2', e, k.mono (fun id hi => by simp [fpOp, hids, hi]) fun id hi => ha.ids id (.inr hi)⟩
      split at h
      · rename_i q H2 hq
        split at h
        · rename_i hc
          cases h
          obtain ⟨H2', e2, k2⟩ := key hq
          have hl := ha.push rfl
          rw [e2]
          simp only []
          rw [if_pos hc]
          have : H2'.length = H2.length := by rw [k2.len.1, k2.len.2, hl]
          rw [this]
          exact ⟨_, rfl, Eff.pushI rfl rfl (by simp [fpOp]) ha k2⟩
        · cases h
      · cases h
    · cases h
  case buildSl pu esz z len ps =>
    simp only [opOut] at h ⊢
    split at h
    · rename_i hz
      rw [if_pos hz]
      exact leafV ha h
    · rename_i hz
      rw [if_neg hz]
      have hw : (fpOp E F H (.buildSl pu esz z len ps)).hw = H.length :: idsParts E F ps := by simp [fpOp, hz]
      have hpush : (fpOp E F H (.buildSl pu esz z len ps)).push = true := by simp [fpOp, hz]
      split at h
      · rename_i rows H2 hf
        rw [outV_inv h]
        obtain ⟨H2', e2, k2⟩ := fillR_heap _ _ _ _ H' _ (fun id hi => ha.ids id (.inr (by rw [hw]; simp [hi]))) hf
        have hl := ha.push hpush
        rw [e2]
        have : H2'.length = H2.length := by rw [k2.len.1, k2.len.2, hl]
        simp only [this]
        exact ⟨_, rfl, Eff.pushI rfl hpush (by rw [hw]; simp) ha (k2.mono (fun id hi => by rw [hw]; simp [hi]) fun id hi => ha.ids id (.inr hi))⟩
      · cases h
  case buildN pu esz z len ps =>
    simp only [opOut] at h ⊢
    split at h
    · rename_i hz
      rw [if_pos hz]
      exact leafV ha h
    · rename_i hz
      rw [if_neg hz]
      have hw : (fpOp E F H (.buildN pu esz z len ps)).hw = H.length :: idsParts E F ps := by simp [fpOp, hz]
      have hpush : (fpOp E F H (.buildN pu esz z len ps)).push = true := by simp [fpOp, hz]
      split at h
      · rename_i rows H2 hf
        rw [outV_inv h]
        obtain ⟨H2', e2, k2⟩ := fillR_heap _ _ _ _ H' _ (fun id hi => ha.ids id (.inr (by rw [hw]; simp [hi]))) hf
        have hl := ha.push hpush
        rw [e2]
        have : H2'.length = H2.length := by rw [k2.len.1, k2.len.2, hl]
        simp only [this]
        exact ⟨_, rfl, Eff.pushI rfl hpush (by rw [hw]; simp) ha (k2.mono (fun id hi => by rw [hw]; simp [hi]) fun id hi => ha.ids id (.inr hi))⟩
      · cases h
  case mvD x =>
    simp only [opOut] at h ⊢
    split at h
    · rename_i p hp
      have hids := idsOpd_evV hp
      split at h
      · rename_i rows H2 hq
        rw [outV_inv h]
        obtain ⟨H2', e, k⟩ := purify1_heap (H' := H') (fun id hi => ha.ids id (.inr (by simpa [fpOp, hids] using ids1_sub hi))) hq
        rw [e]
        exact ⟨_, rfl, Eff.ofI rfl ha (k.mono (fun id hi => by simpa [fpOp, hids] using ids1_sub hi) fun id hi => ha.ids id (.inr hi))⟩
      · cases h
    · cases h
  case buildD esz z len ps =>
    simp only [opOut] at h ⊢
    split at h
    · rename_i hz
      rw [if_pos hz]
      exact leafV ha h
    · rename_i hz
      rw [if_neg hz]
      split at h
      · rename_i rows H2 hf
        rw [outV_inv h]
        obtain ⟨H2', e2, k2⟩ := fillR_heap _ _ _ _ H' _ (fun id hi => ha.ids id (.inr (by simpa [fpOp] using hi))) hf
        rw [e2]
        exact ⟨_, rfl, Eff.ofI rfl ha (k2.mono (fun id hi => by simpa [fpOp] using hi) fun id hi => ha.ids id (.inr hi))⟩
      · cases h
  case mkSl pu esz bytes z l c =>
    simp only [opOut] at h ⊢
    split at h
    · split at h
      · rename_i hc
        rw [if_pos hc, outV_inv h, ha.push rfl]
        exact ⟨_, rfl, Eff.pushI rfl rfl (by simp [fpOp]) ha (EffI.refl fun id hi => ha.ids id (.inr hi))⟩
      · cases h
    · cases h
  case load agg sz x =>
    simp only [opOut] at h ⊢
    split at h
    · split at h
      · split at h
        · exact leafV ha h
        · cases h
      · cases h
    · split at h
      · split at h
        · exact leafV ha h
        · cases h
      · cases h
    · rename_i id ext i off he
      have hid : H'[id]? = H[id]? := ha.ids id (.inl (by simp [fpOp, idsOpd, he, idsV, ids1]))
      rw [hid]
      split at h
      · split at h
        · rename_i hc
          rw [if_pos hc]
          split at h
          · split at h
            · exact leafV ha h
            · cases h
          · cases h
        · cases h
      · cases h
    · cases h
  case store sz x y =>
    simp only [opOut] at h ⊢
    split at h
    · rename_i p hp
      split at h
      · split at h
        · split at h
          · exact single (shut h).symm
          · cases h
        · cases h
      · rename_i id ext i off he
        have hidm : id ∈ (fpOp E F H (.store sz x y)).hw := by simp [fpOp, idsOpd, he, idsV, ids1]
        have hid : H'[id]? = H[id]? := ha.ids id (.inr hidm)
        rw [hid]
        split at h
        · rename_i b0 hb0
          have hids := idsOpd_evV hp
          have key : ∀ {q H2}, (if b0.pu then purify H p else some (p, H)) = some (q, H2) → ∃ H2', (if b0.pu then purify H' p else some (p, H')) = some (q, H2') ∧ EffI (fpOp E F H (.store sz x y)).hw H H2 H' H2' := by
            intro q H2 hq
            by_cases hpu : b0.pu = true
            case neg =>
              rw [if_neg hpu] at hq ⊢
              simp only [Option.some.injEq, Prod.mk.injEq] at hq ⊢
              obtain ⟨rfl, rfl⟩ := hq
              exact ⟨H', ⟨rfl, rfl⟩, EffI.refl fun id hi => ha.ids id (.inr hi)⟩
            case pos =>
              rw [if_pos hpu] at hq ⊢
              obtain ⟨H2', e, k⟩ := purify_heap (H' := H') (fun id hi => ha.ids id (.inr (by simp [fpOp, hids, hi]))) hq
              exact ⟨H2', e, k.mono (fun id hi => by simp [fpOp, hids, hi]) fun id hi => ha.ids id (.inr hi)⟩
          split at h
          · rename_i q H2 hq
            obtain ⟨H2', e2, k2⟩ := key hq
            rw [e2]
            simp only []
            rw [k2.inn id hidm]
            split at h
            · rename_i b hb
              split at h
              · rename_i hc
                rw [if_pos hc]
                split at h
                · split at h
                  · cases h
                    exact ⟨_, rfl, Eff.ofI rfl ha (k2.trans (EffI.set k2.inn hidm))⟩
                  · cases h
                · cases h
              · cases h
            · cases h
          · cases h
        · cases h
      · cases h
    · cases h
  case slc esz x lo hi mx =>
    simp only [opOut] at h ⊢
    split at h
    · rename_i p l hh m hp _ _ _
      split at h
      · cases h
      · rename_i hc
        rw [if_neg hc, sliceV_heap (fun id hi => ha.ids id (.inl (by simp [fpOp, idsOpd_evV hp, hi])))]
        split at h
        · exact leafV ha h
        · cases h
    · cases h
  case iad esz x i =>
    simp only [opOut] at h ⊢
    split at h
    · split at h
      · rename_i hc
        rw [if_pos hc]
        split at h
        · split at h
          · rename_i hc2; rw [if_pos hc2]; exact leafV ha h
          · cases h
        · cases h
      · cases h
    · rename_i id lo len ext cap n hp hn
      have hid : H'[id]? = H[id]? := ha.ids id (.inl (by simp [fpOp, idsOpd_evV hp, idsV, ids1]))
      split at h
      · rename_i hc
        rw [if_pos hc, hid]
        split at h
        · split at h
          · rename_i hc2; rw [if_pos hc2]; exact leafV ha h
          · cases h
        · cases h
      · cases h
    · split at h
      · rename_i hc; rw [if_pos hc]; exact leafV ha h
      · cases h
    · cases h
  case call f as =>
    by_cases hq : quietCall E F f as = true
    · simp only [opOut] at h ⊢
      split at h
      · rename_i fv av hf hav
        split at h
        · rename_i r H2 hc
          obtain ⟨rfl, hr⟩ := callV_quiet hq hf hav hc
          rw [hr]
          exact leafV ha h
        · cases h
      · cases h
    · have hall : (fpOp E F H (.call f as)).all = true := by simp [fpOp, hq]
      have := ha.all hall
      subst this
      exact ⟨out.h, h, ⟨fun _ => rfl, fun e => (by rw [hall] at e; cases e), fun e => (by rw [hall] at e; cases e), fun _ => rfl, fun _ e => (by rw [hall] at e; cases e)⟩⟩
  case app pu esz bytes s x =>
    simp only [opOut] at h ⊢
    split at h
    · rename_i sv xv hs hx
      split at h
      · rename_i r H2 hap
        obtain ⟨H2', e2, k2⟩ := appV_heap (H' := H') (p := fpOp E F H (.app pu esz bytes s x)) rfl rfl (by simp [fpOp]) (fun id hi => by simp [fpOp, idsOpd_evV hs, hi]) (fun id hi => by simp [fpOp, idsOpd_evV hx, hi]) ha hap
        rw [e2, outV_inv h]
        exact ⟨_, rfl, k2⟩
      · cases h
    · cases h
  case appZ pu esz bytes z s n =>
    simp only [opOut] at h ⊢
    split at h
    · rename_i sv k hs hn
      split at h
      · rename_i h0
        rw [if_pos h0]
        split at h
        · rename_i r H2 hap
          obtain ⟨H2', e2, k2⟩ := appZ_heap (H' := H') (p := fpOp E F H (.appZ pu esz bytes z s n)) rfl rfl (by simp [fpOp]) ha hap
          rw [e2, outV_inv h]
          exact ⟨_, rfl, k2⟩
        · cases h
      · cases h
    · cases h
  case clr pu esz z x =>
    simp only [opOut] at h ⊢
    split at h
    · rename_i sv hs
      split at h
      · rename_i H2 hap
        obtain ⟨H2', e2, k2⟩ := clrV_heap (H' := H') (p := fpOp E F H (.clr pu esz z x)) rfl (fun id hi => by simp [fpOp, idsOpd_evV hs, hi]) ha hap
        rw [e2, outV_inv h]
        exact ⟨_, rfl, k2⟩
      · cases h
    · cases h
  case bad => simp [opOut] at h
  case eqB neg x y =>
    simp only [opOut] at h ⊢
    split at h
    · exact leafV ha h
    · cases h
  case eqA neg sz idx x y =>
    simp only [opOut] at h ⊢
    split at h
    · split at h
      · rename_i hc
        rw [if_pos hc]
        split at h
        · exact leafV ha h
        · cases h
      · cases h
    · cases h
  case idx agg n esz x i =>
    simp only [opOut] at h ⊢
    split at h
    · split at h
      · rename_i hc
        rw [if_pos hc]
        split at h
        · exact leafV ha h
        · cases h
      · cases h
    · cases h
  case eqN neg x =>
    simp only [opOut] at h ⊢
    split at h <;> first | exact leafV ha h | cases h
  all_goals
    simp only [opOut] at h ⊢
    repeat' split at h
  all_goals first
    | (cases h; done)
    | exact leafV ha h
    | exact single (shut h).symm
    | (rename_i hc; rw [if_pos hc]; first | exact leafV ha h | exact single (shut h).symm)
    | skip

theorem fpOp_rd (op : AOp) (H H' : Hp) : (fpOp E F H op).rd = (fpOp E F H' op).rd := by cases op <;> rfl

/-- What lands beside the destination: the variable that a store writes. -/
theorem opOut_bx {op : AOp} {out : Out} {s : Nat} {row : PV} (h : opOut E call F H op = some out) (hb : out.bx = some (s, row)) : s ∈ (fpOp E F H op).wr ∧ ∃ row0, fget F s = some (.box row0) := by
  have hv : ∀ {p : PV} {H}, outV p H = some out → False := fun e => by rw [outV_inv e] at hb; cases hb
  cases op <;> simp only [opOut] at h
  case store sz x y =>
    split at h
    · split at h
      · rename_i s' off e
        split at h
        · rename_i row0 hrow
          split at h
          · cases h
            simp only [Option.some.injEq, Prod.mk.injEq] at hb
            obtain ⟨rfl, _⟩ := hb
            exact ⟨by simp [fpOp, bpOpd, e], row0, hrow⟩
          · cases h
        · cases h
      all_goals (repeat' split at h)
      all_goals first | (cases h; done) | (cases h; cases hb; done)
    · cases h
  all_goals (repeat' split at h)
  all_goals first | (cases h; done) | exact (hv h).elim | (cases h; cases hb; done)

theorem wr_rd (op : AOp) (s : Nat) (h : s ∈ (fpOp E F H op).wr) : s ∈ (fpOp E F H op).rd := by
  cases op <;> simp only [fpOp] at h ⊢ <;> first | (cases h; done) | skip
  simp [h]

/-- Where a pointer into a variable comes from. -/
theorem ev_bp {x : Opd} {s off : Nat} (h : ev E F x = some (.bp s off)) : (∃ row, fget F s = some (.box row)) ∨ noBp F s = false := by
  cases x with
  | t k =>
    simp only [ev] at h
    split at h
    · rename_i row hrow
      cases h
      exact .inl ⟨row, hrow⟩
    · right
      have key : ∀ F : Frm, fget F k = some (.bp s off) → noBp F s = false := by
        intro F
        induction F with
        | nil => intro e; simp [fget] at e
        | cons a r ih =>
          obtain ⟨j, x⟩ := a
          intro e
          simp only [fget] at e
          split at e
          · cases e; simp [noBp]
          · have := ih e
            cases x <;> simp [noBp, this]
      exact key F h
  | c v => simp [ev] at h
  | g n => simp only [ev] at h; split at h <;> simp at h
  | f n => simp [ev] at h

theorem opOut_bp {op : AOp} {out : Out} {s off : Nat} (h : opOut E call F H op = some out) (hb : out.x = some (.bp s off)) : (∃ row, fget F s = some (.box row)) ∨ noBp F s = false := by
  have hv : ∀ {p : PV} {H}, outV p H = some out → False := fun e => by rw [outV_inv e] at hb; cases hb
  cases op <;> simp only [opOut] at h
  case fad o x =>
    split at h
    · rename_i s' o' e
      cases h
      simp only [Option.some.injEq, FV.bp.injEq] at hb
      obtain ⟨rfl, _⟩ := hb
      exact ev_bp e
    all_goals first | exact (hv h).elim | cases h
  case iadA n esz x i =>
    split at h
    · rename_i s' o' j e _
      split at h
      · cases h
        simp only [Option.some.injEq, FV.bp.injEq] at hb
        obtain ⟨rfl, _⟩ := hb
        exact ev_bp e
      · cases h
    all_goals (repeat' split at h)
    all_goals first | exact (hv h).elim | cases h
  case nilchk x =>
    split at h
    · rename_i s' o' e
      cases h
      simp only [Option.some.injEq, FV.bp.injEq] at hb
      obtain ⟨rfl, _⟩ := hb
      exact ev_bp e
    all_goals first | exact (hv h).elim | cases h
  all_goals (repeat' split at h)
  all_goals first | (cases h; done) | exact (hv h).elim | (cases h; cases hb; done)

theorem opOut_box {o : AOper} {out : Out} {row : PV} (h : opOut E call F H o.op = some out) (hb : out.x = some (.box row)) : boxDst o = o.dst ∧ out.bx = none := by
  have hv : ∀ {p : PV} {H}, outV p H = some out → False := fun e => by rw [outV_inv e] at hb; cases hb
  unfold boxDst
  cases hop : o.op <;> rw [hop] at h <;> simp only [opOut] at h
  case allocL z => cases h; exact ⟨rfl, rfl⟩
  case boxL x =>
    split at h
    · split at h
      · cases h; exact ⟨rfl, rfl⟩
      · cases h
    · cases h
  all_goals (repeat' split at h)
  all_goals first | (cases h; done) | exact (hv h).elim | (cases h; cases hb; done)
end
end Go.Pf
