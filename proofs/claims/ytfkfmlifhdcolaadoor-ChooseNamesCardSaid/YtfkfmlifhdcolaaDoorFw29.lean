/- The framework, part 29: what the conditions ask is what the evaluator does. -/
import Derived.Test.YtfkfmlifhdcolaaDoorFw28
namespace Go.Pf
open Go

/-- The call goes on like this from some fuel on. -/
def Good (E : Env) (callK : CK) : Prop :=
  ∀ f args H K, callK f args H K → ∃ r H', K r H' ∧ ∃ m0, ∀ m, m0 ≤ m → callV E (inline E m) f args H = some (r, H')

def OpGood (E : Env) (F : Frm) (H : Hp) (o : AOp) (K : OK) : Prop :=
  ∃ out : Out, K out.x out.bx out.h ∧ ∃ m0, ∀ m, m0 ≤ m → opOut E (inline E m) F H o = some out

section
variable {E : Env} {callK : CK} {F : Frm} {H : Hp} {K : OK}

theorem opOut_irrel {o : AOp} (h : isCall o = false) (c1 c2 : Nat → List PV → Hp → Option (PV × Hp)) : opOut E c1 F H o = opOut E c2 F H o := by
  cases o <;> first | rfl | simp [isCall] at h

theorem OpGood.of {o : AOp} (_hc : isCall o = false) {out : Out} (hk : K out.x out.bx out.h) (h : ∀ call, opOut E call F H o = some out) : OpGood E F H o K := ⟨out, hk, 0, fun _ _ => h _⟩

theorem def_good {o : AOp} (hc : isCall o = false) (h : match opOut E noCall F H o with | some ⟨x, bx, H'⟩ => K x bx H' | none => False) : OpGood E F H o K := by
  split at h
  · rename_i x bx H' he
    exact ⟨⟨x, bx, H'⟩, h, 0, fun m _ => by rw [opOut_irrel hc (inline E m) noCall, he]⟩
  · exact h.elim

theorem WPur1_ok {H : Hp} {x : PV} {K : PV → Hp → Prop} (h : WPur1 H x K) : ∃ y H', K y H' ∧ purify1 H x = some (y, H') := by
  unfold WPur1 at h
  split at h
  · exact ⟨_, _, h, rfl⟩
  · exact ⟨_, _, h, rfl⟩
  · exact ⟨_, _, h, rfl⟩
  · exact ⟨_, _, h, rfl⟩
  · exact ⟨_, _, h, rfl⟩
  · split at h
    · rename_i b hb
      obtain ⟨h1, h⟩ := asr_iff.1 h
      obtain ⟨h2, h⟩ := asr_iff.1 h
      obtain ⟨h3, h⟩ := asr_iff.1 h
      exact ⟨_, _, h, by simp only [purify1, hb]; rw [if_pos ⟨by simpa using h1, by simpa using h2, h3⟩]⟩
    · exact h.elim
  · exact h.elim
theorem WPurL_ok : ∀ (l : List PV) (H : Hp) (K : List PV → Hp → Prop), WPurL H l K → ∃ ys H', K ys H' ∧ purifyL H l = some (ys, H')
  | [], H, K, h => ⟨_, _, h, rfl⟩
  | x :: r, H, K, h => by
    simp only [WPurL] at h
    obtain ⟨y, H1, h, e1⟩ := WPur1_ok h
    obtain ⟨ys, H2, h, e2⟩ := WPurL_ok r H1 _ h
    exact ⟨_, _, h, by simp only [purifyL, e1, e2]⟩
theorem WPurV_ok {H : Hp} {x : PV} {K : PV → Hp → Prop} (h : WPurV H x K) : ∃ y H', K y H' ∧ purify H x = some (y, H') := by
  cases x with
  | agg cs =>
    simp only [WPurV] at h
    obtain ⟨ys, H', h, e⟩ := WPurL_ok cs H _ h
    exact ⟨_, _, h, by simp only [purify, e, Option.map]⟩
  | _ =>
    simp only [WPurV] at h
    obtain ⟨y, H', h, e⟩ := WPur1_ok h
    exact ⟨_, _, h, by simp only [purify, e]⟩
theorem WPurA_ok : ∀ (l : List PV) (H : Hp) (K : List PV → Hp → Prop), WPurA H l K → ∃ ys H', K ys H' ∧ purifyAll H l = some (ys, H')
  | [], H, K, h => ⟨_, _, h, rfl⟩
  | x :: r, H, K, h => by
    simp only [WPurA] at h
    obtain ⟨y, H1, h, e1⟩ := WPurV_ok h
    obtain ⟨ys, H2, h, e2⟩ := WPurA_ok r H1 _ h
    exact ⟨_, _, h, by simp only [purifyAll, e1, e2]⟩
theorem WPurR_ok {H : Hp} {x : PV} {K : PV → Prop} (h : WPurR H x K) : ∃ q, K q ∧ purR H x = some q := by
  cases x with
  | tup ps =>
    simp only [WPurR] at h
    obtain ⟨ys, H', h, e⟩ := WPurA_ok ps H _ h
    exact ⟨_, h, by simp only [purR, e]⟩
  | _ =>
    simp only [WPurR] at h
    obtain ⟨y, H', h, e⟩ := WPurV_ok h
    exact ⟨_, h, by simp only [purR, e]⟩
theorem WPurIf_ok {pu : Bool} {H : Hp} {x : PV} {K : PV → Hp → Prop} (h : WPurIf pu H x K) : ∃ y H', K y H' ∧ (if pu then purify H x else some (x, H)) = some (y, H') := by
  cases pu with
  | true => simp only [WPurIf] at h; obtain ⟨y, H', h, e⟩ := WPurV_ok h; exact ⟨y, H', h, by simpa using e⟩
  | false => exact ⟨_, _, h, by simp⟩

theorem WFill_ok {pu : Bool} {esz : Nat} : ∀ (l : List (Nat × Opd)) (rows : List PV) (H : Hp) (K : List PV → Hp → Prop), WFill E F pu esz rows H l K →
    ∃ rows' H', K rows' H' ∧ fillR E F pu esz rows H l = some (rows', H')
  | [], rows, H, K, h => ⟨_, _, h, rfl⟩
  | (i, x) :: r, rows, H, K, h => by
    simp only [WFill] at h
    split at h
    · rename_i p hp
      obtain ⟨q, H', h, e⟩ := WPurIf_ok h
      obtain ⟨h1, h⟩ := asr_iff.1 h
      simp only [Bool.and_eq_true] at h1
      obtain ⟨rows', H2, h, e2⟩ := WFill_ok r _ H' K h
      refine ⟨rows', H2, h, ?_⟩
      simp only [fillR, hp, e]
      rw [if_pos ⟨Nat.eq_of_beq_eq_true h1.1.1, (show i + 1 ≤ rows.length from Nat.le_of_ble_eq_true h1.1.2), h1.2⟩]
      exact e2
    · exact h.elim

theorem WBin_ok {op : BinOp} {k k' : IntKind} {a b : Int} {K : PV → Prop} (h : WBin op k k' a b K) : ∃ r, K r ∧ binV op (.int k a) (.int k' b) = some r := by
  cases op <;> simp only [WBin] at h
  case quo =>
    obtain ⟨h1, h2⟩ := asr_iff.1 h
    obtain ⟨h3, h4⟩ := asr_iff.1 h2
    have e1 : k = k' := by simpa using h1
    have e2 : ¬ b = 0 := by simpa using h3
    exact ⟨_, h4, by simp [binV, e1, binI, e2]⟩
  case rem =>
    obtain ⟨h1, h2⟩ := asr_iff.1 h
    obtain ⟨h3, h4⟩ := asr_iff.1 h2
    have e1 : k = k' := by simpa using h1
    have e2 : ¬ b = 0 := by simpa using h3
    exact ⟨_, h4, by simp [binV, e1, binI, e2]⟩
  case shl =>
    obtain ⟨h1, h2⟩ := asr_iff.1 h
    have e1 : ¬ b < 0 := by simpa using h1
    exact ⟨_, h2, by simp only [binV, shiftI, e1, if_false]⟩
  case shr =>
    obtain ⟨h1, h2⟩ := asr_iff.1 h
    have e1 : ¬ b < 0 := by simpa using h1
    exact ⟨_, h2, by simp only [binV, shiftI, e1, if_false]⟩
  all_goals
    obtain ⟨h1, h2⟩ := asr_iff.1 h
    have e1 : k = k' := by simpa using h1
    split at h2
    · rename_i r hr
      exact ⟨r, h2, by simp only [binV, e1, if_true]; rw [← e1]; exact hr⟩
    · exact h2.elim

theorem WSplit_ok {n : Nat} {j : Int} {K : Nat → Prop} : ∀ m, m ≤ n → WSplit n j K m → ∃ k : Nat, K k ∧ j = (k : Int) ∧ k < n
  | 0, _, h => h.elim
  | m + 1, hm, h => by
    simp only [WSplit] at h
    obtain ⟨h1, h2⟩ := cbr_iff.1 h
    by_cases hj : j = ((n - (m + 1) : Nat) : Int)
    · exact ⟨_, h1 (by simpa using hj), hj, by omega⟩
    · exact WSplit_ok m (by omega) (h2 (by simpa using hj))

theorem allU8_get : ∀ (cs : List PV) (i : Nat), allU8 cs = true → i < cs.length → cs[i]? = some (.int .u8 (intOfV (cs.getD i .nils)))
  | [], i, _, h => by simp at h
  | x :: r, i, hu, hi => by
    cases x with
    | int k n =>
      cases k <;> simp only [allU8, Bool.false_eq_true] at hu
      cases i with
      | zero => simp [intOfV]
      | succ i => have := allU8_get r i hu (by simpa using hi); simpa using this
    | _ => simp [allU8] at hu

theorem WRows_ok {x : PV} {K : List PV → Prop} (h : WRows H x K) : ∃ ys, K ys ∧ rowsOf H x = some ys := by
  unfold WRows at h
  split at h
  · exact ⟨_, h, rfl⟩
  · exact ⟨_, h, rfl⟩
  · exact ⟨_, h, rfl⟩
  · split at h
    · rename_i b hb
      obtain ⟨h1, h2⟩ := asr_iff.1 h
      obtain ⟨h3, h4⟩ := asr_iff.1 h2
      exact ⟨_, h4, by simp only [rowsOf, hb]; rw [if_pos ⟨by simpa using h1, by simpa using h3⟩]⟩
    · exact h.elim
  · exact h.elim

theorem WFresh_ok {pu : Bool} {esz bytes : Nat} {rows : List PV} {K : PV → Hp → Prop} (h : WFresh H pu esz bytes rows K) : ∃ r H', K r H' ∧ appFresh H pu esz bytes rows = some (r, H') := by
  obtain ⟨h1, h2⟩ := asr_iff.1 h
  exact ⟨_, _, h2, by simp only [appFresh]; rw [if_pos (by simpa using h1)]⟩

def appS (H : Hp) (pu : Bool) (esz bytes : Nat) (ys : List PV) : PV → Option (PV × Hp)
  | .nils => if ys.isEmpty then some (.nils, H) else appFresh H pu esz bytes ys
  | .emp => if ys.isEmpty then some (.emp, H) else appFresh H pu esz bytes ys
  | .own id lo len ext cap =>
    (match H[id]? with
     | some b => if b.rows.length = ext ∧ b.pu = pu ∧ b.esz = esz ∧ lo + len ≤ ext then
         (if ys.isEmpty then some (.own id lo len ext cap, H) else appOwn H pu esz bytes ys id lo len ext cap b) else none
     | none => none)
  | _ => none

theorem WApp_ok {md : Nat} {pu : Bool} {esz bytes : Nat} {s x : PV} {ys : List PV} {K : PV → Hp → Prop} (hy : rowsOf H x = some ys) (hh : headOk esz ys = true) (hs : srcOk H pu x = true) (h : WApp md H pu esz bytes s ys K) :
    ∃ r H', K r H' ∧ appV H pu esz bytes s x = some (r, H') := by
  have e0 : appV H pu esz bytes s x = appS H pu esz bytes ys s := by
    simp only [appV, hy]; rw [if_pos ⟨hh, hs⟩]; cases s <;> rfl
  rw [e0]
  clear e0 hy hs
  unfold WApp at h
  split at h
  · obtain ⟨h1, h2⟩ := cbr_iff.1 h
    cases hE : ys.isEmpty with
    | true => exact ⟨_, _, h1 hE, by simp [appS, hE]⟩
    | false =>
      obtain ⟨r, H', hk, hf⟩ := WFresh_ok (h2 hE)
      exact ⟨r, H', hk, by simp [appS, hE, hf]⟩
  · obtain ⟨h1, h2⟩ := cbr_iff.1 h
    cases hE : ys.isEmpty with
    | true => exact ⟨_, _, h1 hE, by simp [appS, hE]⟩
    | false =>
      obtain ⟨r, H', hk, hf⟩ := WFresh_ok (h2 hE)
      exact ⟨r, H', hk, by simp [appS, hE, hf]⟩
  · rename_i id lo len ext cap
    split at h
    · rename_i b hb
      obtain ⟨h1, h⟩ := asr_iff.1 h
      obtain ⟨h2, h⟩ := asr_iff.1 h
      obtain ⟨h3, h⟩ := asr_iff.1 h
      simp only [Bool.and_eq_true, decide_eq_true_eq] at h1 h2 h3
      obtain ⟨k1, k2⟩ := cbr_iff.1 h
      have hc : b.rows.length = ext ∧ b.pu = pu ∧ b.esz = esz ∧ lo + len ≤ ext := ⟨h1, h2.1, h2.2, h3⟩
      cases hE : ys.isEmpty with
      | true => exact ⟨_, _, k1 hE, by simp only [appS, hb]; rw [if_pos hc]; simp [hE]⟩
      | false =>
        have h := k2 hE
        suffices ∃ r H', K r H' ∧ appOwn H pu esz bytes ys id lo len ext cap b = some (r, H') by
          obtain ⟨r, H', hk, hf⟩ := this
          exact ⟨r, H', hk, by simp only [appS, hb]; rw [if_pos hc]; simp [hE, hf]⟩
        cases cap with
        | some c =>
          simp only at h
          have key1 : decide (len + ys.length ≤ c) = true → asr (!b.fz) (K (.own id lo (len + ys.length) ext (some c)) (H.set id { b with rows := b.rows.take (lo + len) ++ (ys ++ b.rows.drop (lo + len + ys.length)) })) →
              ∃ r H', K r H' ∧ appOwn H pu esz bytes ys id lo len ext (some c) b = some (r, H') := by
            intro e1 e2
            obtain ⟨e3, e4⟩ := asr_iff.1 e2
            refine ⟨_, _, e4, ?_⟩
            simp only [appOwn]
            rw [if_pos (by simpa using e1), if_pos (by simpa using e3)]
          have key2 : decide (len + ys.length ≤ c) = false → WFresh H pu esz bytes ((b.rows.drop lo).take len ++ ys) K →
              ∃ r H', K r H' ∧ appOwn H pu esz bytes ys id lo len ext (some c) b = some (r, H') := by
            intro e1 e2
            obtain ⟨r, H', hk, hf⟩ := WFresh_ok e2
            refine ⟨r, H', hk, ?_⟩
            simp only [appOwn]
            rw [if_neg (by simpa using e1)]
            exact hf
          split at h
          · obtain ⟨a1, a2⟩ := cbr_iff.1 h
            cases hd : decide (len + ys.length ≤ c) with
            | true => exact key1 hd (a1 hd)
            | false => exact key2 hd (a2 hd)
          · obtain ⟨a1, a2⟩ := asr_iff.1 h; exact key2 (by simpa using a1) a2
          · obtain ⟨a1, a2⟩ := asr_iff.1 h; exact key1 a1 a2
        | none =>
          simp only at h
          obtain ⟨hfz, h⟩ := asr_iff.1 h
          have hfz' : ¬ b.fz = true := by simpa using hfz
          have key1 : decide (lo + len + ys.length ≤ ext) = true → K (.own id lo (len + ys.length) ext none) (H.set id { b with rows := b.rows.take (lo + len) ++ (ys ++ b.rows.drop (lo + len + ys.length)) }) →
              ∃ r H', K r H' ∧ appOwn H pu esz bytes ys id lo len ext none b = some (r, H') := by
            intro e1 e2
            refine ⟨_, _, e2, ?_⟩
            simp only [appOwn]
            rw [if_neg hfz', if_pos (by simpa using e1)]
          have key3 : decide (lo + len + ys.length ≤ ext) = false → asr (decide (lo = 0)) (asr (decide (len = ext)) (asr (decide ((ext + ys.length + 64) * (bytes + 1) ≤ room))
                (K (.own id 0 (b.rows ++ ys).length (b.rows ++ ys).length none) (H.set id { b with rows := b.rows ++ ys })))) →
              ∃ r H', K r H' ∧ appOwn H pu esz bytes ys id lo len ext none b = some (r, H') := by
            intro e1 e2
            obtain ⟨e3, e2⟩ := asr_iff.1 e2
            obtain ⟨e4, e2⟩ := asr_iff.1 e2
            obtain ⟨e5, e2⟩ := asr_iff.1 e2
            simp only [decide_eq_true_eq] at e3 e4 e5
            refine ⟨_, _, e2, ?_⟩
            simp only [appOwn]
            rw [if_neg hfz', if_neg (by simpa using e1), if_pos ⟨e3, e4, e5⟩]
            simp only [List.length_append, h1]
          split at h
          · obtain ⟨a1, a2⟩ := cbr_iff.1 h
            cases hd : decide (lo + len + ys.length ≤ ext) with
            | true => exact key1 hd (a1 hd)
            | false => exact key3 hd (a2 hd)
          · obtain ⟨a1, a2⟩ := asr_iff.1 h; exact key1 a1 a2
          · obtain ⟨a1, a2⟩ := asr_iff.1 h; exact key3 (by simpa using a1) a2
    · exact h.elim
  · exact h.elim

theorem WSlice_ok {esz : Nat} {lo hi mx : Option Int} {x : PV} {K : PV → Prop} (h : WSlice H esz lo hi mx x K) : ∃ r, K r ∧ sliceV H esz lo hi mx x = some r := by
  unfold WSlice at h
  split at h
  · obtain ⟨h1, h2⟩ := asr_iff.1 h
    simp only [Bool.and_eq_true, decide_eq_true_eq] at h1
    exact ⟨_, h2, by simp only [sliceV]; rw [if_pos h1]⟩
  · obtain ⟨h1, h2⟩ := asr_iff.1 h
    simp only [Bool.and_eq_true, decide_eq_true_eq] at h1
    exact ⟨_, h2, by simp only [sliceV]; rw [if_pos h1]⟩
  · rename_i rows
    simp only at h
    split at h
    · obtain ⟨h1, h⟩ := asr_iff.1 h
      obtain ⟨h2, h⟩ := asr_iff.1 h
      obtain ⟨h3, h⟩ := asr_iff.1 h
      obtain ⟨h4, h⟩ := asr_iff.1 h
      simp only [Bool.or_eq_true, decide_eq_true_eq] at h1 h2 h3 h4
      exact ⟨_, h, by simp only [sliceV]; rw [if_pos ⟨h1, h2, h3, h4⟩]⟩
    · rename_i m
      obtain ⟨h1, h⟩ := asr_iff.1 h
      obtain ⟨h2, h⟩ := asr_iff.1 h
      obtain ⟨h3, h⟩ := asr_iff.1 h
      obtain ⟨h4, h⟩ := asr_iff.1 h
      obtain ⟨h5, h⟩ := asr_iff.1 h
      obtain ⟨k1, k2⟩ := cbr_iff.1 h
      simp only [Bool.or_eq_true, decide_eq_true_eq] at h1 h2 h3 h4 h5
      by_cases hl : lo.getD 0 = m
      · exact ⟨_, k1 (by simpa using hl), by simp only [sliceV]; rw [if_pos ⟨h1, h2, h3, h4, h5⟩, if_pos hl]⟩
      · exact ⟨_, k2 (by simpa using hl), by simp only [sliceV]; rw [if_pos ⟨h1, h2, h3, h4, h5⟩, if_neg hl]⟩
  · rename_i id lo0 len ext cap
    simp only at h
    split at h
    · rename_i b hb
      obtain ⟨h0, h⟩ := asr_iff.1 h
      split at h
      · obtain ⟨h1, h⟩ := asr_iff.1 h
        obtain ⟨h2, h⟩ := asr_iff.1 h
        obtain ⟨h3, h⟩ := asr_iff.1 h
        simp only [Bool.or_eq_true, decide_eq_true_eq] at h1 h2 h3
        exact ⟨_, h, by simp only [sliceV, hb, h0, Bool.true_eq_false, if_false]; rw [if_pos ⟨h1, h2, h3⟩]⟩
      · obtain ⟨h1, h⟩ := asr_iff.1 h
        obtain ⟨h2, h⟩ := asr_iff.1 h
        obtain ⟨h3, h⟩ := asr_iff.1 h
        obtain ⟨h4, h⟩ := asr_iff.1 h
        simp only [Bool.or_eq_true, decide_eq_true_eq] at h1 h2 h3 h4
        exact ⟨_, h, by simp only [sliceV, hb, h0, Bool.true_eq_false, if_false]; rw [if_pos ⟨h1, h2, h3, h4⟩]⟩
    · exact h.elim
  · exact h.elim

theorem WRow_ok {sh : Sh} {rows : List PV} {i : Nat} {K : PV → Prop} (h : WRow sh rows i K) : ∃ r, K r ∧ rows[i]? = some r := by
  have key : asr (decide (i < rows.length)) (asr (conf sh (rows.getD i .nils)) (K (expl sh (rows.getD i .nils)))) → ∃ r, K r ∧ rows[i]? = some r := by
    intro h
    obtain ⟨h1, h⟩ := asr_iff.1 h
    obtain ⟨h2, h⟩ := asr_iff.1 h
    have hi : i < rows.length := by simpa using h1
    rw [conf_expl _ _ h2] at h
    refine ⟨_, h, ?_⟩
    rw [List.getElem?_eq_getElem hi, List.getD_eq_getElem?_getD, List.getElem?_eq_getElem hi]; rfl
  unfold WRow at h
  split at h
  · split at h
    · rename_i r hr; exact ⟨r, h, hr⟩
    · exact h.elim
  · exact key h

theorem WOp_ok (hG : Good E callK) {a : An} {o : AOp} (h : WOp E callK a F H o K) : OpGood E F H o K := by
  cases o
  case pick c x y =>
    simp only [WOp] at h
    split at h
    · rename_i t ht
      obtain ⟨h1, h2⟩ := cbr_iff.1 h
      cases t with
      | true =>
        have h := h1 rfl
        split at h
        · rename_i p hp; exact ⟨⟨some (.v p), none, H⟩, h, 0, fun m _ => by simp only [opOut, ht, hp]; rfl⟩
        · exact h.elim
      | false =>
        have h := h2 rfl
        split at h
        · rename_i p hp; exact ⟨⟨some (.v p), none, H⟩, h, 0, fun m _ => by simp only [opOut, ht, hp]; rfl⟩
        · exact h.elim
    · exact h.elim
  case bin op x y =>
    simp only [WOp] at h
    split at h
    · rename_i k p k' q hx hy
      obtain ⟨r, hk, hr⟩ := WBin_ok h
      exact ⟨⟨some (.v r), none, H⟩, hk, 0, fun m _ => by simp only [opOut, hx, hy, hr]; rfl⟩
    · exact h.elim
  case load agg sz x =>
    simp only [WOp] at h
    split at h
    · rename_i id ext i off hx
      split at h
      · rename_i b hb
        obtain ⟨h1, h⟩ := asr_iff.1 h
        obtain ⟨row, h, hr⟩ := WRow_ok h
        split at h
        · rename_i p hp
          exact ⟨⟨some (.v p), none, H⟩, h, 0, fun m _ => by simp only [opOut, hx, hb]; rw [if_pos (by simpa using h1)]; simp only [hr, hp]; rfl⟩
        · exact h.elim
      · exact h.elim
    · exact def_good rfl h
  case store sz x y =>
    simp only [WOp] at h
    split at h
    · rename_i id ext i off hx
      split at h
      · rename_i p hp
        split at h
        · rename_i b0 hb0
          obtain ⟨q, H', h, hq⟩ := WPurIf_ok h
          split at h
          · rename_i b hb
            obtain ⟨h1, h⟩ := asr_iff.1 h
            obtain ⟨h2, h⟩ := asr_iff.1 h
            obtain ⟨row, h, hr⟩ := WRow_ok h
            split at h
            · rename_i row' hrow
              refine ⟨⟨none, none, H'.set id { b with rows := b.rows.set i row' }⟩, h, 0, fun m _ => ?_⟩
              have e1 : b.rows.length = ext := by simpa using h1
              have e2 : b.fz = false := by simpa using h2
              simp only [opOut, hp, hx, hb0, hq, hb, hr, hrow]
              rw [if_pos ⟨e1, e2⟩]
            · exact h.elim
          · exact h.elim
        · exact h.elim
      · exact h.elim
    · exact def_good rfl h
  case iad esz x i =>
    simp only [WOp] at h
    split at h
    · rename_i rows n hx hi
      obtain ⟨h1, h⟩ := asr_iff.1 h
      obtain ⟨h2, h⟩ := asr_iff.1 h
      obtain ⟨h3, h⟩ := asr_iff.1 h
      obtain ⟨h4, h⟩ := asr_iff.1 h
      simp only [decide_eq_true_eq] at h1 h2
      rw [conf_expl _ _ h3] at h h4
      have hlt : n.toNat < rows.length := by omega
      have e : rows[n.toNat]? = some (rows.getD n.toNat .nils) := by
        rw [List.getElem?_eq_getElem hlt, List.getD_eq_getElem?_getD, List.getElem?_eq_getElem hlt]; rfl
      refine ⟨⟨_, _, _⟩, h, 0, fun m _ => ?_⟩
      simp only [opOut, hx, hi]
      rw [if_pos ⟨h1, h2⟩]
      simp only [e]
      rw [if_pos (by simpa using h4)]
      rfl
    · rename_i id lo len ext cap n hx hi
      split at h
      · rename_i b hb
        obtain ⟨h1, h⟩ := asr_iff.1 h
        obtain ⟨h2, h⟩ := asr_iff.1 h
        obtain ⟨h3, h⟩ := asr_iff.1 h
        simp only [decide_eq_true_eq] at h1 h2 h3
        refine ⟨⟨_, _, _⟩, h, 0, fun m _ => ?_⟩
        simp only [opOut, hx, hi]
        rw [if_pos ⟨h1, h2⟩]
        simp only [hb]
        rw [if_pos h3]
        rfl
      · exact h.elim
    · exact h.elim
  case iadA n esz x i =>
    simp only [WOp] at h
    split at h
    · rename_i s o j hx hi
      obtain ⟨k, h', rfl, hk⟩ := WSplit_ok n (Nat.le_refl _) h
      clear h
      refine ⟨⟨_, _, _⟩, h', 0, fun m _ => ?_⟩
      simp only [opOut, hx, hi]
      rw [if_pos ⟨by omega, by omega⟩]
      simp
    · rename_i id e r o j hx hi
      obtain ⟨k, h', rfl, hk⟩ := WSplit_ok n (Nat.le_refl _) h
      clear h
      refine ⟨⟨_, _, _⟩, h', 0, fun m _ => ?_⟩
      simp only [opOut, hx, hi]
      rw [if_pos ⟨by omega, by omega⟩]
      simp [outV]
    · rename_i rows r o j hx hi
      obtain ⟨k, h', rfl, hk⟩ := WSplit_ok n (Nat.le_refl _) h
      clear h
      refine ⟨⟨_, _, _⟩, h', 0, fun m _ => ?_⟩
      simp only [opOut, hx, hi]
      rw [if_pos ⟨by omega, by omega⟩]
      simp [outV]
    · exact h.elim
  case idx agg n esz x i =>
    simp only [WOp] at h
    split at h
    · rename_i cs j hx hi
      split at h
      · obtain ⟨h0, k0⟩ := asr_iff.1 h
        obtain ⟨h1, k1⟩ := asr_iff.1 k0
        obtain ⟨h2, k2⟩ := asr_iff.1 k1
        clear h k0 k1
        simp only [Bool.and_eq_true, decide_eq_true_eq, Bool.not_eq_true'] at h0 h1 h2
        obtain ⟨ha, he, hn, hu⟩ := h0
        have he := Nat.eq_of_beq_eq_true he
        have hn := Nat.eq_of_beq_eq_true hn
        subst ha; subst he
        refine ⟨⟨_, _, _⟩, k2, 0, fun m _ => ?_⟩
        simp only [opOut, hx, hi]
        rw [if_pos ⟨h1, h2⟩]
        have hlt : j.toNat < cs.length := by omega
        have hcell : cs[j.toNat]? = some (.int .u8 (intOfV (cs.getD j.toNat .nils))) := allU8_get cs _ hu hlt
        simp only [partOf, Nat.mul_one, PV.cells, Bool.false_eq_true, if_false, hcell]
        rfl
      obtain ⟨k, h', rfl, hk⟩ := WSplit_ok n (Nat.le_refl _) h
      clear h
      split at h'
      · rename_i p hp
        refine ⟨⟨_, _, _⟩, h', 0, fun m _ => ?_⟩
        simp only [opOut, hx, hi]
        rw [if_pos ⟨by omega, by omega⟩]
        simp only [Int.toNat_natCast, hp]
        rfl
      · exact h'.elim
    · exact h.elim
  case slc esz x lo hi mx =>
    simp only [WOp] at h
    split at h
    · rename_i p l hh m hx hl hhi hm
      split at h
      · exact h.elim
      · rename_i hb
        obtain ⟨r, h, hr⟩ := WSlice_ok h
        refine ⟨⟨_, _, _⟩, h, 0, fun _ _ => ?_⟩
        simp only [opOut, hx, hl, hhi, hm]
        rw [if_neg (by rw [hb]; exact Bool.false_ne_true)]
        simp only [hr]
        rfl
    · exact h.elim
  case mkSl pu esz bytes z l c =>
    simp only [WOp] at h
    split at h
    · rename_i l c hl hc
      obtain ⟨h1, h⟩ := asr_iff.1 h
      obtain ⟨h2, h⟩ := asr_iff.1 h
      obtain ⟨h3, h⟩ := asr_iff.1 h
      simp only [decide_eq_true_eq] at h1 h2 h3
      refine ⟨⟨_, _, _⟩, h, 0, fun _ _ => ?_⟩
      simp only [opOut, hl, hc]
      rw [if_pos ⟨h1, h2, h3⟩]
      rfl
    · exact h.elim
  case app pu esz bytes s x =>
    simp only [WOp] at h
    split at h
    · rename_i s x hs hx
      obtain ⟨ys, h, hy⟩ := WRows_ok h
      obtain ⟨h1, h⟩ := asr_iff.1 h
      obtain ⟨h2, h⟩ := asr_iff.1 h
      obtain ⟨r, H', h, hr⟩ := WApp_ok hy h1 h2 h
      refine ⟨⟨_, _, _⟩, h, 0, fun _ _ => ?_⟩
      simp only [opOut, hs, hx, hr]
      rfl
    · exact h.elim
  case boxH pu esz x =>
    simp only [WOp] at h
    split at h
    · rename_i p hp
      obtain ⟨q, H', h, hq⟩ := WPurIf_ok h
      obtain ⟨h1, h⟩ := asr_iff.1 h
      simp only [Bool.and_eq_true] at h1
      refine ⟨⟨_, _, _⟩, h, 0, fun _ _ => ?_⟩
      simp only [opOut, hp, hq]
      rw [if_pos ⟨Nat.eq_of_beq_eq_true h1.1, h1.2⟩]
    · exact h.elim
  case buildSl pu esz z len parts =>
    simp only [WOp] at h
    split at h
    · exact ⟨⟨_, _, _⟩, h, 0, fun _ _ => by simp only [opOut, if_true]; rfl⟩
    · obtain ⟨rows, H', h, e⟩ := WFill_ok _ _ _ _ h
      refine ⟨⟨_, _, _⟩, h, 0, fun _ _ => ?_⟩
      simp only [opOut, e]
      rfl
  case buildD esz z len parts =>
    simp only [WOp] at h
    split at h
    · exact ⟨⟨_, _, _⟩, h, 0, fun _ _ => by simp only [opOut, if_true]; rfl⟩
    · obtain ⟨rows, H', h, e⟩ := WFill_ok _ _ _ _ h
      refine ⟨⟨_, _, _⟩, h, 0, fun _ _ => ?_⟩
      simp only [opOut, e]
      rfl
  case call f args =>
    simp only [WOp] at h
    split at h
    · rename_i g vs hg hvs
      obtain ⟨r, H', h, m0, hm⟩ := hG _ _ _ _ h
      refine ⟨⟨_, _, _⟩, h, m0, fun m hle => ?_⟩
      simp only [opOut, hg, hvs, hm m hle]
      rfl
    · exact h.elim
  all_goals exact def_good rfl h

/-! Regions. -/

theorem frep_eq : ∀ (F : Frm) (s : Nat) (x : FV), fget F s = some x → frep F s x = F
  | [], _, _, h => by simp [fget] at h
  | (k, y) :: r, s, x, h => by
    simp only [fget] at h
    simp only [frep]
    by_cases hk : k = s
    · subst hk
      simp only [if_true, Option.some.injEq] at h
      subst h
      simp
    · rw [if_neg hk] at h
      have : Nat.beq k s = false := by
        cases e : Nat.beq k s with
        | true => exact absurd (Nat.eq_of_beq_eq_true e) hk
        | false => rfl
      rw [this, frep_eq r s x h]
      rfl
theorem fref_eq {c : Opd} {b : Bool} (h : evV E F c = some (.bool b)) : fref F c b = F := by
  cases c with
  | t s =>
    simp only [evV, ev] at h
    simp only [fref]
    apply frep_eq
    cases e : fget F s with
    | none => simp [e] at h
    | some fv => cases fv <;> simp [e] at h; rw [h]
  | _ => rfl

theorem WGuard_ok {g : Option (Nat × Bool)} {yes no : Frm → Prop} (h : WGuard F g yes no) : (guardOk F g = some true ∧ yes F) ∨ (guardOk F g = some false ∧ no F) := by
  unfold WGuard at h
  split at h
  · exact .inl ⟨rfl, h⟩
  · rename_i s want
    split at h
    · rename_i b hb
      have e : guardOk F (some (s, want)) = some (b == want) := by simp only [guardOk, hb]
      split at h
      · cases b with
        | true => have h : yes (frep F s (.v (.bool true))) := h; rw [frep_eq _ _ _ hb] at h; exact .inl ⟨by rw [e]; rfl, h⟩
        | false => have h : no (frep F s (.v (.bool false))) := h; rw [frep_eq _ _ _ hb] at h; exact .inr ⟨by rw [e]; rfl, h⟩
      · cases b with
        | true => have h : no (frep F s (.v (.bool true))) := h; rw [frep_eq _ _ _ hb] at h; exact .inr ⟨by rw [e]; rfl, h⟩
        | false => have h : yes (frep F s (.v (.bool false))) := h; rw [frep_eq _ _ _ hb] at h; exact .inl ⟨by rw [e]; rfl, h⟩
    · rename_i hb
      exact .inr ⟨by simp only [guardOk, hb], h⟩
    · exact h.elim

theorem WOps_ok (hG : Good E callK) {an : List An} : ∀ (l : List AOper) (i : Nat) (F : Frm) (H : Hp) (K : Frm → Hp → Prop), WOps E callK an l i F H K →
    ∃ F' H', K F' H' ∧ ∃ m0, ∀ m, m0 ≤ m → runOps E (inline E m) l F H = some (F', H')
  | [], i, F, H, K, h => ⟨F, H, h, 0, fun _ _ => rfl⟩
  | o :: r, i, F, H, K, h => by
    simp only [WOps] at h
    rcases WGuard_ok h with ⟨hg, h⟩ | ⟨hg, h⟩
    · obtain ⟨out, h, m0, hm⟩ := WOp_ok hG h
      split at h
      · exact h.elim
      · rename_i F' hF'
        rw [frc_eq] at h
        obtain ⟨F2, H2, hk, m1, hm1⟩ := WOps_ok hG r (i + 1) F' out.h K h
        refine ⟨F2, H2, hk, max m0 m1, fun m hle => ?_⟩
        have e : stepOp E (inline E m) F H o = some (F', out.h) := by
          simp only [stepOp, hg, hm m (by omega), hF', Option.map]
        simp only [runOps, e]
        exact hm1 m (by omega)
    · obtain ⟨F2, H2, hk, m1, hm1⟩ := WOps_ok hG r (i + 1) (skipDst F o.dst) H K h
      refine ⟨F2, H2, hk, m1, fun m hle => ?_⟩
      have e : stepOp E (inline E m) F H o = some (skipDst F o.dst, H) := by
        simp only [stepOp, hg]
        cases o.dst <;> rfl
      simp only [runOps, e]
      exact hm1 m hle

theorem WFps_ok (hG : Good E callK) {an : List An} {F0 : Frm} {l0 : List AOper} {pairs : List (Nat × Nat)} : ∀ (l : List AOper) (i : Nat) (F : Frm) (H : Hp) (ps : List FP) (K : Frm → Hp → Prop), WFps E callK an F0 l0 pairs l i F H ps K →
    ∃ F' H' qs, K F' H' ∧ apart (ps.reverse ++ qs) pairs = true ∧ boxesOk F0 l0 l0 = true ∧ ∃ m0, ∀ m, m0 ≤ m → runFps E (inline E m) l F H = some (F', H', qs)
  | [], i, F, H, ps, K, h => by
    simp only [WFps] at h
    obtain ⟨h1, h⟩ := asr_iff.1 h
    simp only [Bool.and_eq_true] at h1
    exact ⟨F, H, [], h, by simpa using h1.1, h1.2, 0, fun _ _ => rfl⟩
  | o :: r, i, F, H, ps, K, h => by
    simp only [WFps] at h
    rcases WGuard_ok h with ⟨hg, h⟩ | ⟨hg, h⟩
    · obtain ⟨out, h, m0, hm⟩ := WOp_ok hG h
      split at h
      · exact h.elim
      · rename_i F' hF'
        rw [frc_eq] at h
        obtain ⟨F2, H2, qs, hk, ha, hb, m1, hm1⟩ := WFps_ok hG r (i + 1) F' out.h (fpYes E F H o :: ps) K h
        refine ⟨F2, H2, fpYes E F H o :: qs, hk, by simpa using ha, hb, max m0 m1, fun m hle => ?_⟩
        have e : stepU E (inline E m) o (F, H) = some (F', out.h) := by
          simp only [stepU, hg, hm m (by omega), hF', Option.map]
        have e2 : fpOper E F H o = fpYes E F H o := by simp only [fpOper, hg, fpYes]
        simp only [runFps, e, hm1 m (by omega), e2]
    · obtain ⟨F2, H2, qs, hk, ha, hb, m1, hm1⟩ := WFps_ok hG r (i + 1) (skipDst F o.dst) H (fpNo o :: ps) K h
      refine ⟨F2, H2, fpNo o :: qs, hk, by simpa using ha, hb, m1, fun m hle => ?_⟩
      have e : stepU E (inline E m) o (F, H) = some (skipDst F o.dst, H) := by
        simp only [stepU, hg]
        cases o.dst <;> rfl
      have e2 : fpOper E F H o = fpNo o := by simp only [fpOper, hg, fpNo]
      simp only [runFps, e, hm1 m hle, e2]

/-! Code. -/

/-- A loop goes like this. -/
def LoopT (E : Env) (b : TCode) (F : Frm) (H : Hp) (Q : Ex → Frm → Hp → Prop) : Prop :=
  ∃ x F' H', Q x F' H' ∧ ∃ m0, ∀ m, m0 ≤ m → exec E m (.loop (erase b)) F H = some (x, F', H')

/-- The loops of a code do what their conditions ask. -/
def LpOk (E : Env) (lp : LP) : TCode → Prop
  | .seq a b => LpOk E lp a ∧ LpOk E lp b
  | .cond _ a b => LpOk E lp a ∧ LpOk E lp b
  | .block _ b => LpOk E lp b
  | .loop id b => LpOk E lp b ∧ ∀ F H Q, lp id F H Q → LoopT E b F H Q
  | _ => True

/-- The loops of a code. -/
def loopsOf : TCode → List (Nat × TCode)
  | .seq a b | .cond _ a b => loopsOf a ++ loopsOf b
  | .block _ b => loopsOf b
  | .loop id b => loopsOf b ++ [(id, b)]
  | _ => []

theorem LpOk_of {E : Env} {lp : LP} : ∀ (c : TCode), (∀ p ∈ loopsOf c, ∀ F H Q, lp p.1 F H Q → LoopT E p.2 F H Q) → LpOk E lp c
  | .skip, _ | .ops _ _ _ _, _ | .exit _, _ | .ret, _ | .bad, _ => trivial
  | .seq a b, h => ⟨LpOk_of a fun p hp => h p (by simp only [loopsOf, List.mem_append]; exact .inl hp), LpOk_of b fun p hp => h p (by simp only [loopsOf, List.mem_append]; exact .inr hp)⟩
  | .cond _ a b, h => ⟨LpOk_of a fun p hp => h p (by simp only [loopsOf, List.mem_append]; exact .inl hp), LpOk_of b fun p hp => h p (by simp only [loopsOf, List.mem_append]; exact .inr hp)⟩
  | .block _ b, h => LpOk_of b h
  | .loop id b, h => ⟨LpOk_of b fun p hp => h p (by simp only [loopsOf, List.mem_append]; exact .inl hp), h (id, b) (by simp [loopsOf])⟩

theorem WC_ok (hG : Good E callK) {lp : LP} : ∀ (c : TCode), LpOk E lp c → ∀ (F : Frm) (H : Hp) (Q : Ex → Frm → Hp → Prop), WC E callK lp c F H Q →
    ∃ x F' H', Q x F' H' ∧ ∃ m0, ∀ m, m0 ≤ m → exec E m (erase c) F H = some (x, F', H')
  | .skip, _, F, H, Q, h => ⟨_, _, _, h, 1, fun m hm => by
      obtain ⟨k, rfl⟩ : ∃ k, m = k + 1 := ⟨m - 1, by omega⟩
      simp only [erase, exec]⟩
  | .exit id, _, F, H, Q, h => ⟨_, _, _, h, 1, fun m hm => by
      obtain ⟨k, rfl⟩ : ∃ k, m = k + 1 := ⟨m - 1, by omega⟩
      simp only [erase, exec]⟩
  | .ret, _, F, H, Q, h => ⟨_, _, _, h, 1, fun m hm => by
      obtain ⟨k, rfl⟩ : ∃ k, m = k + 1 := ⟨m - 1, by omega⟩
      simp only [erase, exec]⟩
  | .bad, _, F, H, Q, h => h.elim
  | .ops l an ps fg, _, F, H, Q, h => by
    cases ps with
    | nil =>
      simp only [WC] at h
      obtain ⟨F', H', hk, m0, hm⟩ := WOps_ok hG l 0 F H _ h
      rw [frc_eq] at hk
      refine ⟨_, _, _, hk, m0 + 1, fun m hle => ?_⟩
      obtain ⟨k, rfl⟩ : ∃ k, m = k + 1 := ⟨m - 1, by omega⟩
      simp only [erase, exec, runReg, hm k (by omega)]
    | cons p ps =>
      simp only [WC] at h
      obtain ⟨F', H', qs, hk, ha, hb, m0, hm⟩ := WFps_ok hG l 0 _ H [] _ h
      rw [frc_eq] at hk
      refine ⟨_, _, _, hk, m0 + 1, fun m hle => ?_⟩
      obtain ⟨k, rfl⟩ : ∃ k, m = k + 1 := ⟨m - 1, by omega⟩
      simp only [erase, exec, runReg, hm k (by omega)]
      rw [if_pos ⟨by simpa using ha, hb⟩]
  | .seq a b, hl, F, H, Q, h => by
    simp only [WC] at h
    simp only [LpOk] at hl
    obtain ⟨x, F', H', hk, m0, hm⟩ := WC_ok hG a hl.1 F H _ h
    cases x with
    | norm =>
      obtain ⟨x2, F2, H2, hk2, m1, hm1⟩ := WC_ok hG b hl.2 F' H' Q hk
      refine ⟨x2, F2, H2, hk2, max m0 m1 + 1, fun m hle => ?_⟩
      obtain ⟨k, rfl⟩ : ∃ k, m = k + 1 := ⟨m - 1, by omega⟩
      simp only [erase, exec, hm k (by omega), hm1 k (by omega)]
    | exit i =>
      refine ⟨_, _, _, hk, m0 + 1, fun m hle => ?_⟩
      obtain ⟨k, rfl⟩ : ∃ k, m = k + 1 := ⟨m - 1, by omega⟩
      simp only [erase, exec, hm k (by omega)]
    | ret =>
      refine ⟨_, _, _, hk, m0 + 1, fun m hle => ?_⟩
      obtain ⟨k, rfl⟩ : ∃ k, m = k + 1 := ⟨m - 1, by omega⟩
      simp only [erase, exec, hm k (by omega)]
  | .cond c a b, hl, F, H, Q, h => by
    simp only [WC] at h
    simp only [LpOk] at hl
    split at h
    · rename_i t ht
      obtain ⟨h1, h2⟩ := cbr_iff.1 h
      cases t with
      | true =>
        obtain ⟨x, F', H', hk, m0, hm⟩ := WC_ok hG a hl.1 F H Q (fref_eq ht ▸ h1 rfl)
        refine ⟨x, F', H', hk, m0 + 1, fun m hle => ?_⟩
        obtain ⟨k, rfl⟩ : ∃ k, m = k + 1 := ⟨m - 1, by omega⟩
        simp only [erase, exec, ht, hm k (by omega)]
      | false =>
        obtain ⟨x, F', H', hk, m0, hm⟩ := WC_ok hG b hl.2 F H Q (fref_eq ht ▸ h2 rfl)
        refine ⟨x, F', H', hk, m0 + 1, fun m hle => ?_⟩
        obtain ⟨k, rfl⟩ : ∃ k, m = k + 1 := ⟨m - 1, by omega⟩
        simp only [erase, exec, ht, hm k (by omega)]
    · exact h.elim
  | .block id b, hl, F, H, Q, h => by
    simp only [WC] at h
    simp only [LpOk] at hl
    obtain ⟨x, F', H', hk, m0, hm⟩ := WC_ok hG b hl F H _ h
    cases x with
    | norm =>
      refine ⟨_, _, _, hk, m0 + 1, fun m hle => ?_⟩
      obtain ⟨k, rfl⟩ : ∃ k, m = k + 1 := ⟨m - 1, by omega⟩
      simp only [erase, exec, hm k (by omega)]
    | exit i =>
      simp only at hk
      cases hb : Nat.beq i id with
      | true =>
        rw [hb] at hk
        have e := Nat.eq_of_beq_eq_true hb
        subst e
        refine ⟨.norm, F', H', hk, m0 + 1, fun m hle => ?_⟩
        obtain ⟨k, rfl⟩ : ∃ k, m = k + 1 := ⟨m - 1, by omega⟩
        simp only [erase, exec, hm k (by omega), if_true]
      | false =>
        rw [hb] at hk
        have e : ¬ i = id := fun e => by subst e; rw [Nat.beq_refl] at hb; cases hb
        refine ⟨.exit i, F', H', hk, m0 + 1, fun m hle => ?_⟩
        obtain ⟨k, rfl⟩ : ∃ k, m = k + 1 := ⟨m - 1, by omega⟩
        simp only [erase, exec, hm k (by omega), e, if_false]
    | ret =>
      refine ⟨_, _, _, hk, m0 + 1, fun m hle => ?_⟩
      obtain ⟨k, rfl⟩ : ∃ k, m = k + 1 := ⟨m - 1, by omega⟩
      simp only [erase, exec, hm k (by omega)]
  | .loop id b, hl, F, H, Q, h => by
    simp only [WC] at h
    simp only [LpOk] at hl
    obtain ⟨x, F', H', hk, m0, hm⟩ := hl.2 F H Q h
    exact ⟨x, F', H', hk, m0, fun m hle => by simp only [erase]; exact hm m hle⟩

/-- A loop's condition, round by round. -/
theorem LoopT.intro (hG : Good E callK) {lp : LP} {b : TCode} (hl : LpOk E lp b) {Q : Ex → Frm → Hp → Prop} (R : Nat → Frm → Hp → Prop) (h0 : ∀ F H, ¬ R 0 F H)
    (hs : ∀ n F H, R (n + 1) F H → WC E callK lp b F H fun x F' H' => match x with | .norm => R n F' H' | .exit i => Q (.exit i) F' H' | .ret => Q .ret F' H') :
    ∀ n F H, R n F H → LoopT E b F H Q
  | 0, F, H, h => (h0 F H h).elim
  | n + 1, F, H, h => by
    obtain ⟨x, F', H', hk, m0, hm⟩ := WC_ok hG b hl F H _ (hs n F H h)
    cases x with
    | norm =>
      obtain ⟨x2, F2, H2, hk2, m1, hm1⟩ := LoopT.intro hG hl R h0 hs n F' H' hk
      refine ⟨x2, F2, H2, hk2, max m0 m1 + 1, fun m hle => ?_⟩
      obtain ⟨k, rfl⟩ : ∃ k, m = k + 1 := ⟨m - 1, by omega⟩
      simp only [exec, hm k (by omega), hm1 k (by omega)]
    | exit i =>
      refine ⟨_, _, _, hk, m0 + 1, fun m hle => ?_⟩
      obtain ⟨k, rfl⟩ : ∃ k, m = k + 1 := ⟨m - 1, by omega⟩
      simp only [exec, hm k (by omega)]
    | ret =>
      refine ⟨_, _, _, hk, m0 + 1, fun m hle => ?_⟩
      obtain ⟨k, rfl⟩ : ∃ k, m = k + 1 := ⟨m - 1, by omega⟩
      simp only [exec, hm k (by omega)]
end

/-! Functions. -/

/-- What a function answers for pure data. -/
def Ans (E : Env) (n : Nat) (as : List PV) (r : PV) : Prop := ∃ m0, ∀ m, m0 ≤ m → pureRes E (inline E m) n as = some r

structure SEOk (S : SE) : Prop where
  sum : ∀ n wp, S.sumK n = some wp → ∀ as K, wp as K → ∃ r, K r ∧ Ans S.E n as r
  inl : ∀ n fn, S.inl n = some fn → S.E.fns n = some fn.fn ∧ S.E.qui n = false ∧ S.E.frz n = false ∧ (∀ as, S.E.sum n as = none) ∧ LpOk S.E S.lp fn.body

section
variable {S : SE} {callK : CK} {H : Hp}

theorem WFn_ok (hG : Good S.E callK) {fn : TFn} (hl : LpOk S.E S.lp fn.body) {n : Nat} (hf : S.E.fns n = some fn.fn) {args : List PV} {K : PV → Hp → Prop} (h : WFn S.E callK S.lp fn args H K) :
    ∃ r H', K r H' ∧ ∃ m0, ∀ m, m0 ≤ m → inline S.E m n args H = some (r, H') := by
  obtain ⟨h1, h⟩ := asr_iff.1 h
  have h1 : args.length = fn.nparams := by simpa using h1
  obtain ⟨x, F', H', hk, m0, hm⟩ := WC_ok hG fn.body hl _ H _ h
  have key : (match ressOf F' H' fn.results with | some ps => K (packed ps) H' | none => False) → (x = .norm ∨ x = .ret) →
      ∃ r H', K r H' ∧ ∃ m0, ∀ m, m0 ≤ m → inline S.E m n args H = some (r, H') := by
    intro hk hx
    split at hk
    · rename_i ps hps
      refine ⟨_, _, hk, m0 + 1, fun m hle => ?_⟩
      obtain ⟨k, rfl⟩ : ∃ k, m = k + 1 := ⟨m - 1, by omega⟩
      have e := hm k (by omega)
      simp only [inline, hf, TFn.fn, h1, if_true]
      rw [e]
      rcases hx with rfl | rfl <;> simp only [hps]
    · exact hk.elim
  cases x with
  | norm => exact key hk (.inl rfl)
  | exit i => exact hk.elim
  | ret => exact key hk (.inr rfl)

theorem callW_ok (hS : SEOk S) : ∀ d, Good S.E (callW S d)
  | 0, f, args, H, K, h => h.elim
  | d + 1, f, args, H, K, h => by
    unfold callW at h
    split at h
    · rename_i n first captured
      split at h
      · rename_i wp hwp
        obtain ⟨as, H', h, hp⟩ := WPurA_ok _ _ _ h
        obtain ⟨r, hk, m0, hm⟩ := hS.sum n wp hwp as _ h
        refine ⟨r, _, hk, m0, fun m hle => ?_⟩
        simp only [callV, hp, hm m hle]
        cases r.scalar <;> simp
      · split at h
        · rename_i fn hfn
          obtain ⟨h1, h2, h3, h4, h5⟩ := hS.inl n fn hfn
          obtain ⟨r, H', hk, m0, hm⟩ := WFn_ok (callW_ok hS d) h5 h1 h
          refine ⟨r, H', hk, m0, fun m hle => ?_⟩
          have e : ∀ as, pureRes S.E (inline S.E m) n as = none := by
            intro as; simp only [pureRes, h4 as, h2]; rfl
          simp only [callV, e, h2, h3]
          cases purifyAll H (first ++ args ++ captured) <;> simp only [Bool.false_eq_true, if_false, hm m hle]
        · exact h.elim
    · exact h.elim

/-- A function of pure data answers as its condition asks. -/
theorem WP_ok (hS : SEOk S) {d : Nat} {fn : TFn} {n : Nat} (hl : LpOk S.E S.lp fn.body) (hf : S.E.fns n = some fn.fn) (hq : S.E.qui n = true) (hs : ∀ as, S.E.sum n as = none) {as : List PV} {K : PV → Prop} (h : WP S d fn as K) :
    ∃ r, K r ∧ Ans S.E n as r := by
  unfold WP at h
  obtain ⟨r, H', hk, m0, hm⟩ := WFn_ok (callW_ok hS d) hl hf h
  obtain ⟨q, hk, hq'⟩ := WPurR_ok hk
  refine ⟨q, hk, m0, fun m hle => ?_⟩
  simp only [pureRes, hs as, hq, hm m hle, hq', if_true]
end

def AllL (E : Env) (lp : LP) : List (Nat × TCode) → Prop
  | [] => True
  | p :: r => (∀ F H Q, lp p.1 F H Q → LoopT E p.2 F H Q) ∧ AllL E lp r
theorem AllL.mem {E : Env} {lp : LP} : ∀ {l : List (Nat × TCode)}, AllL E lp l → ∀ p ∈ l, ∀ F H Q, lp p.1 F H Q → LoopT E p.2 F H Q
  | [], _, p, hp => by cases hp
  | q :: r, h, p, hp => by
    rcases List.mem_cons.1 hp with rfl | hp
    · exact h.1
    · exact AllL.mem h.2 p hp
theorem LpOk_by {E : Env} {lp : LP} {c : TCode} {l : List (Nat × TCode)} (h : AllL E lp l) (e : loopsOf c = l) : LpOk E lp c := LpOk_of c (by rw [e]; exact h.mem)
theorem LpOk_no {E : Env} {lp : LP} {c : TCode} (e : loopsOf c = []) : LpOk E lp c := LpOk_by (l := []) trivial e
/-! What texts by program use. -/
def lookS : List (Nat × (List PV → (PV → Prop) → Prop)) → Nat → Option (List PV → (PV → Prop) → Prop)
  | [], _ => none
  | (k, f) :: r, n => bif Nat.beq k n then some f else lookS r n
def lookI : List (Nat × TFn) → Nat → Option TFn
  | [], _ => none
  | (k, f) :: r, n => bif Nat.beq k n then some f else lookI r n
def AllS (E : Env) : List (Nat × (List PV → (PV → Prop) → Prop)) → Prop
  | [] => True
  | (k, f) :: r => (∀ as K, f as K → ∃ q, K q ∧ Ans E k as q) ∧ AllS E r
def AllI (E : Env) (lp : LP) : List (Nat × TFn) → Prop
  | [] => True
  | (k, f) :: r => (E.fns k = some f.fn ∧ E.qui k = false ∧ E.frz k = false ∧ (∀ as, E.sum k as = none) ∧ LpOk E lp f.body) ∧ AllI E lp r

theorem lookS_ok {E : Env} : ∀ (l : List (Nat × (List PV → (PV → Prop) → Prop))), AllS E l → ∀ n wp, lookS l n = some wp → ∀ as K, wp as K → ∃ r, K r ∧ Ans E n as r
  | [], _, _, _, h => by simp [lookS] at h
  | (k, f) :: r, hl, n, wp, h => by
    simp only [AllS] at hl
    simp only [lookS] at h
    cases hc : Nat.beq k n with
    | true =>
      rw [hc] at h
      simp only [cond_true, Option.some.injEq] at h
      have := Nat.eq_of_beq_eq_true hc
      subst this; subst h
      exact hl.1
    | false =>
      rw [hc] at h
      exact lookS_ok r hl.2 n wp (by simpa using h)
theorem lookI_ok {E : Env} {lp : LP} : ∀ (l : List (Nat × TFn)), AllI E lp l → ∀ n fn, lookI l n = some fn → E.fns n = some fn.fn ∧ E.qui n = false ∧ E.frz n = false ∧ (∀ as, E.sum n as = none) ∧ LpOk E lp fn.body
  | [], _, _, _, h => by simp [lookI] at h
  | (k, f) :: r, hl, n, fn, h => by
    simp only [AllI] at hl
    simp only [lookI] at h
    cases hc : Nat.beq k n with
    | true =>
      rw [hc] at h
      simp only [cond_true, Option.some.injEq] at h
      have := Nat.eq_of_beq_eq_true hc
      subst this; subst h
      exact hl.1
    | false =>
      rw [hc] at h
      exact lookI_ok r hl.2 n fn (by simpa using h)
theorem seOk_of {E : Env} {ls : List (Nat × (List PV → (PV → Prop) → Prop))} {li : List (Nat × TFn)} {lp : LP} (hs : AllS E ls) (hi : AllI E lp li) : SEOk ⟨E, lookS ls, lookI li, lp⟩ where
  sum := fun n wp h => lookS_ok ls hs n wp h
  inl := fun n fn h => lookI_ok li hi n fn h
end Go.Pf
