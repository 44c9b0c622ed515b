/- Part 4 of what the statement rests on: a verified evaluator over pure values, the conditions of the program's functions, and their plain laws. -/
import Derived.Test.YtniodknidoemfaaDoorCtW3
namespace Go.Pf.Vc
open Go Go.Pf
theorem abs_mul {n d B : Int} (h : -B ≤ n ∧ n ≤ B) (hd : 0 ≤ d ∧ d ≤ 12) : -(12 * B) ≤ n * d ∧ n * d ≤ 12 * B := by
  have a1 := Int.mul_le_mul_of_nonneg_right h.1 hd.1
  have a2 := Int.mul_le_mul_of_nonneg_right h.2 hd.1
  have a3 := Int.mul_le_mul_of_nonneg_left hd.2 (show 0 ≤ B by omega)
  rw [Int.neg_mul] at a1
  omega
theorem Fr.mulI {D B : Int} {q : Rat} (h : Fr D B q) {d : Int} (hd : 0 ≤ d ∧ d ≤ 12) : Fr D (12 * B) (q * (d : Rat)) := by
  obtain ⟨n, h1, h2, rfl⟩ := h
  obtain ⟨a1, a2⟩ := abs_mul ⟨h1, h2⟩ hd
  exact ⟨n * d, a1, a2, by rw [Rat.intCast_mul]; grind⟩
section
variable {len : Int} {cuts dens : List Int}
def rem (cuts dens : List Int) : Nat → Nat → Int
  | 0, _ => 0
  | r + 1, i => dens.getD i 0 * (cuts.getD (i + 1) 0 - cuts.getD i 0) + rem cuts dens r (i + 1)
theorem totS_rem (cuts dens : List Int) : ∀ (r i : Nat) (s : Int), totS cuts dens r i s = s + rem cuts dens r i
  | 0, i, s => by unfold totS rem; omega
  | r + 1, i, s => by unfold totS rem; rw [totS_rem cuts dens r (i + 1)]; omega
theorem rem_bound (h : VC len cuts dens) : ∀ (r i : Nat), i + r = dens.length → 0 ≤ rem cuts dens r i ∧ rem cuts dens r i ≤ 12 * (len - cuts.getD i 0)
  | 0, i, hi => by
    have := h.l1
    have := h.hi (i := i) (by omega)
    unfold rem; omega
  | r + 1, i, hi => by
    unfold rem
    have l1 := h.l1
    have h2 := h.step (i := i) (by omega)
    have h3 := mul12 (h.den (i := i) (by omega)) (x := cuts.getD (i + 1) 0 - cuts.getD i 0) (by omega)
    have := rem_bound h r (i + 1) (by omega)
    omega
theorem rem_pos (h : VC len cuts dens) : ∀ (r i : Nat), i + r = dens.length → (∃ j, i ≤ j ∧ j < dens.length ∧ 0 < dens.getD j 0) → 0 < rem cuts dens r i
  | 0, i, hi, ⟨j, h1, h2, _⟩ => by omega
  | r + 1, i, hi, ⟨j, h1, h2, h3⟩ => by
    unfold rem
    have l1 := h.l1
    have s := h.step (i := i) (by omega)
    have m := mul12 (h.den (i := i) (by omega)) (x := cuts.getD (i + 1) 0 - cuts.getD i 0) (by omega)
    have b := rem_bound h r (i + 1) (by omega)
    by_cases e : j = i
    · subst e
      have := Int.mul_pos h3 (show 0 < cuts.getD (j + 1) 0 - cuts.getD j 0 by omega)
      omega
    · have := rem_pos h r (i + 1) (by omega) ⟨j, by omega, h2, h3⟩
      omega
theorem totC_pos (h : VC len cuts dens) : 0 < totC cuts dens := by
  unfold totC
  rw [totS_rem]
  obtain ⟨d, hd, h0⟩ := h.2.2.2.2.2.2.2.2.2
  obtain ⟨j, hj, e⟩ := List.mem_iff_getElem.1 hd
  have := rem_pos h dens.length 0 (by omega) ⟨j, by omega, hj, by rw [List.getD_eq_getElem?_getD, List.getElem?_eq_getElem hj]; simpa [e] using h0⟩
  omega
theorem mrk_half (h : VC len cuts dens) : ∀ (r i : Nat) (m : Int), i + r = dens.length → 0 < m → m ≤ 2 * rem cuts dens r i →
    ∃ p d, mrkS cuts dens r i (cuts.getD i 0 : Int) ((m : Rat) / 2) = .ok p ∧ (1 ≤ d ∧ d ≤ 12) ∧ Fr (2 * d) 100000 p ∧ ((cuts.getD i 0 : Int) : Rat) ≤ p ∧ p ≤ (len : Rat)
  | 0, i, m, hi, h0, h1 => by unfold rem at h1; omega
  | r + 1, i, m, hi, h0, h1 => by
    unfold rem at h1
    have l1 := h.l1
    have hs := h.step (i := i) (by omega)
    have c0 := h.lo (i := i) (by omega)
    have c1 := h.hi (i := i + 1) (by omega)
    have hl := h.len0
    have hd := h.den (i := i) (by omega)
    have hm := mul12 hd (x := cuts.getD (i + 1) 0 - cuts.getD i 0) (by omega)
    have hb := rem_bound h r (i + 1) (by omega)
    have ih := mrk_half h r (i + 1)
    have hcc : ((cuts.getD i 0 : Int) : Rat) < ((cuts.getD (i + 1) 0 : Int) : Rat) := Rat.intCast_lt_intCast.2 hs
    unfold mrkS
    rw [if_neg (fun x => x hcc)]
    by_cases d0 : dens.getD i 0 = 0
    · rw [if_pos d0]
      rw [d0, Int.zero_mul, Int.zero_add] at h1
      obtain ⟨p, d, e1, e2, e3, e4, e5⟩ := ih m (by omega) h0 h1
      exact ⟨p, d, e1, e2, e3, by grind, e5⟩
    · rw [if_neg d0]
      generalize cuts.getD i 0 = c at *
      generalize cuts.getD (i + 1) 0 = c' at *
      generalize dens.getD i 0 = d at *
      have s1 : small ((c' : Rat) - (c : Rat)) := by rw [← Rat.intCast_sub]; exact small_int (by omega)
      have s2 : small (((c' : Rat) - (c : Rat)) * (d : Rat)) := by rw [← Rat.intCast_sub, ← Rat.intCast_mul, Int.mul_comm]; exact small_int (by omega)
      rw [fit_ok s1, fit_ok s2]
      have ew : ((c' : Rat) - (c : Rat)) * (d : Rat) = ((d * (c' - c) : Int) : Rat) := by rw [Rat.intCast_mul, Rat.intCast_sub]; grind
      by_cases hw : ((c' : Rat) - (c : Rat)) * (d : Rat) < (m : Rat) / 2
      · rw [if_pos hw]
        have hlt : 2 * (d * (c' - c)) < m := by
          rw [ew] at hw
          have : ((2 * (d * (c' - c)) : Int) : Rat) < (m : Rat) := by rw [Rat.intCast_mul]; show (2 : Rat) * _ < _; grind
          exact Rat.intCast_lt_intCast.1 this
        have ev : (m : Rat) / 2 - ((c' : Rat) - (c : Rat)) * (d : Rat) = ((m - 2 * (d * (c' - c)) : Int) : Rat) / 2 := by
          rw [ew, Rat.intCast_sub, Rat.intCast_mul 2]; show _ = ((m : Rat) - (2 : Rat) * _) / 2; grind
        have s3 : small ((m : Rat) / 2 - ((c' : Rat) - (c : Rat)) * (d : Rat)) := by
          rw [ev]; exact small_div (d := 2) ⟨by omega, by omega⟩ ⟨by omega, by omega⟩
        rw [fit_ok s3, ev]
        obtain ⟨p, d', e1, e2, e3, e4, e5⟩ := ih (m - 2 * (d * (c' - c))) (by omega) (by omega) (by omega)
        exact ⟨p, d', e1, e2, e3, by grind, e5⟩
      · rw [if_neg hw]
        have hge : m ≤ 2 * (d * (c' - c)) := by
          rw [ew] at hw
          have : ¬ ((2 * (d * (c' - c)) : Int) : Rat) < (m : Rat) := by rw [Rat.intCast_mul]; show ¬ (2 : Rat) * _ < _; grind
          exact Int.not_lt.1 fun hlt => this (Rat.intCast_lt_intCast.2 hlt)
        have hd1 : 1 ≤ d := by omega
        have ev : (m : Rat) / 2 / (d : Rat) = (m : Rat) / ((2 * d : Int) : Rat) := by
          rw [Rat.intCast_mul]
          show _ = (m : Rat) / ((2 : Rat) * (d : Rat))
          have := rne hd1
          grind
        have f1 : Fr (2 * d) 24000 ((m : Rat) / 2 / (d : Rat)) := ⟨m, by omega, by omega, ev⟩
        have f2 : Fr (2 * d) 48000 ((c : Rat) + (m : Rat) / 2 / (d : Rat)) := by
          have k := (Fr.of_int (D := 2 * d) (by omega) c 1000 ⟨by omega, by omega⟩)
          obtain ⟨n, n1, n2, n3⟩ := k
          exact Fr.add (B1 := 24000) (B2 := 24000) ⟨n, by omega, by omega, n3⟩ f1
        rw [fit_ok (f1.small ⟨by omega, by omega⟩ (by omega)), fit_ok (f2.small ⟨by omega, by omega⟩ (by omega))]
        have dp : (0 : Rat) < (d : Rat) := Rat.intCast_pos.2 (by omega)
        have q0 : 0 ≤ (m : Rat) / 2 / (d : Rat) := by
          have hm0 : (0 : Rat) < (m : Rat) := Rat.intCast_pos.2 h0
          have h2 : (0 : Rat) < (m : Rat) / 2 := by grind
          rw [Rat.div_def]
          exact Rat.mul_nonneg (Rat.le_of_lt h2) (Rat.le_of_lt (Rat.inv_pos.2 dp))
        have q1 : (c : Rat) + (m : Rat) / 2 / (d : Rat) ≤ (c' : Rat) := by
          have hle : (m : Rat) / 2 ≤ ((c' : Rat) - (c : Rat)) * (d : Rat) := Rat.not_lt.1 hw
          have : (m : Rat) / 2 / (d : Rat) ≤ (c' : Rat) - (c : Rat) := by
            refine Rat.le_of_mul_le_mul_right (c := (d : Rat)) ?_ dp
            rw [Rat.div_mul_cancel (rne hd1)]
            exact hle
          grind
        have q2 : (c' : Rat) ≤ (len : Rat) := Rat.intCast_le_intCast.2 c1
        exact ⟨_, d, rfl, ⟨hd1, hd.2⟩, f2.mono (by omega), by grind, by grind⟩
theorem val_ok (h : VC len cuts dens) {D : Int} (hD : 1 ≤ D ∧ D ≤ 1000) {b : Rat} (hb : Fr D (100000 * D) b) :
    ∀ (r i : Nat) (p sum : Rat) (B : Int), i + r = dens.length → Fr D (100000 * D) p → Fr D B sum → 0 ≤ B → B + r * (2400000 * D) ≤ 1000000000000000000 → ∃ s, valS cuts dens b r i p sum = .ok s ∧ Fr D (B + r * (2400000 * D)) s
  | 0, i, p, sum, B, hi, hp, hs, h0, hB => by unfold valS; exact ⟨sum, rfl, hs.mono (by omega)⟩
  | r + 1, i, p, sum, B, hi, hp, hs, h0, hB => by
    unfold valS
    have l1 := h.l1
    have c0 := h.lo (i := i + 1) (by omega)
    have c1 := h.hi (i := i + 1) (by omega)
    have hl := h.len0
    have hd := h.den (i := i) (by omega)
    have hc : Fr D (100000 * D) ((cuts.getD (i + 1) 0 : Int) : Rat) := Fr.of_int hD.1 _ 100000 ⟨by omega, by omega⟩
    have hen : Fr D (100000 * D) (if b < (cuts.getD (i + 1) 0 : Int) then b else (cuts.getD (i + 1) 0 : Int)) := by split <;> assumption
    generalize (if b < ((cuts.getD (i + 1) 0 : Int) : Rat) then b else ((cuts.getD (i + 1) 0 : Int) : Rat)) = en at *
    have ed : ((r + 1 : Nat) : Int) * (2400000 * D) = (r : Int) * (2400000 * D) + 2400000 * D := by
      rw [Int.natCast_add, Int.add_mul]; omega
    have rp : 0 ≤ (r : Int) * (2400000 * D) := Int.mul_nonneg (by omega) (by omega)
    rw [ed] at hB ⊢
    simp only
    split
    · have hnx : Fr D (100000 * D) (if p < en then en else p) := by split <;> assumption
      obtain ⟨s, e1, e2⟩ := val_ok h hD hb r (i + 1) _ sum B (by omega) hnx hs h0 (by omega)
      exact ⟨s, e1, e2.mono (by omega)⟩
    · have f1 := hen.sub hp
      have f2 := f1.mulI hd
      have f3 := hs.add f2
      have e12 : 12 * (100000 * D + 100000 * D) = 2400000 * D := by omega
      rw [e12] at f2 f3
      rw [fit_ok (f1.small ⟨by omega, by omega⟩ (by omega)), fit_ok (f2.small ⟨by omega, by omega⟩ (by omega)), fit_ok (f3.small ⟨by omega, by omega⟩ (by omega))]
      obtain ⟨s, e1, e2⟩ := val_ok h hD hb r (i + 1) en _ (B + 2400000 * D) (by omega) hen f3 (by omega) (by omega)
      exact ⟨s, e1, e2.mono (by omega)⟩
end
end Go.Pf.Vc
namespace Go.Pf.Vc
open Go Go.Pf
structure Qy where
  agent : Int
  kind : Int
  an : Int
  ad : Int
  bn : Int
  bd : Int
  cn : Int
  cd : Int
  deriving DecidableEq
instance : Inhabited Qy := ⟨⟨0, 0, 0, 0, 0, 0, 0, 0⟩⟩
def encQ (q : Qy) : PV := qrow q.agent q.kind q.an q.ad q.bn q.bd q.cn q.cd
def logs (l : List Qy) : List PV := l.map encQ
theorem logs_len (l : List Qy) : (logs l).length = l.length := List.length_map ..
theorem logs_at {l : List Qy} {i : Nat} (h : i < l.length) : List.getD (logs l) i .nils = encQ (l.getD i default) := by
  unfold logs
  rw [List.getD_eq_getElem?_getD, List.getD_eq_getElem?_getD, List.getElem?_map, List.getElem?_eq_getElem h]
  rfl
theorem logs_head (l : List Qy) : headOk 8 (logs l) = true := by cases l <;> rfl
theorem asQ {q : Qy} {P : Prop} : asr (conf (.agg [.i .i64, .i .u8, .i .i64, .i .i64, .i .i64, .i .i64, .i .i64, .i .i64]) (encQ q)) P = P := rfl
theorem qeq (q r : Qy) : ((q.agent == r.agent) && ((q.kind == r.kind) && ((q.an == r.an) && ((q.ad == r.ad) && ((q.bn == r.bn) && ((q.bd == r.bd) && ((q.cn == r.cn) && ((q.cd == r.cd) && true)))))))) = decide (q = r) := by
  cases q; cases r
  rw [Bool.eq_iff_iff]
  simp
theorem list_step {α : Type} [DecidableEq α] (d : α) {a b : List α} {i : Nat} (ha : i < a.length) (hb : i < b.length) : decide (a.drop i = b.drop i) = (decide (a.getD i d = b.getD i d) && decide (a.drop (i + 1) = b.drop (i + 1))) := by
  rw [drop_cons d ha, drop_cons d hb, Bool.eq_iff_iff]
  simp
theorem qEqual_loop {a b : List Qy} (hab : a.length = b.length) (hl : a.length < 4611686018427387904) (K : Bool → Prop) :
    ∀ (r i n : Nat), i + r = a.length → r < n → L_s_Equal_api_Query_api_Query_0_0 (fun yb0 => K yb0) (fun _ _ _ _ _ => K true) n (logs a) (logs b) a.length i = K (decide (a.drop i = b.drop i))
  | 0, i, n + 1, hi, hn => by
    unfold L_s_Equal_api_Query_api_Query_0_0
    rw [cbF (by omega), List.drop_of_length_le (by omega), List.drop_of_length_le (by omega)]; rfl
  | r + 1, i, n + 1, hi, hn => by
    unfold L_s_Equal_api_Query_api_Query_0_0
    have e1 := wib (n := (i : Int) + 1) (by omega) (by omega)
    rw [cbT (by omega), logs_len, logs_len, Int.toNat_natCast, logs_at (by omega), logs_at (by omega), asT (by omega), asT (by omega), asQ, asT (by omega), asT (by omega), asQ, list_step default (by omega) (by omega), e1, cast1]
    have q := qeq (a.getD i default) (b.getD i default)
    show cbr (!((((a.getD i default).agent == (b.getD i default).agent)) && _)) _ _ = _
    have q2 : ((intOfV (cellAt (encQ (a.getD i default)) 0) == intOfV (cellAt (encQ (b.getD i default)) 0)) && ((intOfV (cellAt (encQ (a.getD i default)) 1) == intOfV (cellAt (encQ (b.getD i default)) 1)) && ((intOfV (cellAt (encQ (a.getD i default)) 2) == intOfV (cellAt (encQ (b.getD i default)) 2)) && ((intOfV (cellAt (encQ (a.getD i default)) 3) == intOfV (cellAt (encQ (b.getD i default)) 3)) && ((intOfV (cellAt (encQ (a.getD i default)) 4) == intOfV (cellAt (encQ (b.getD i default)) 4)) && ((intOfV (cellAt (encQ (a.getD i default)) 5) == intOfV (cellAt (encQ (b.getD i default)) 5)) && ((intOfV (cellAt (encQ (a.getD i default)) 6) == intOfV (cellAt (encQ (b.getD i default)) 6)) && ((intOfV (cellAt (encQ (a.getD i default)) 7) == intOfV (cellAt (encQ (b.getD i default)) 7)) && true)))))))) = decide (a.getD i default = b.getD i default) := q
    have ih := qEqual_loop hab hl K r (i + 1) n (by omega) (by omega)
    refine (congrArg (fun c => cbr (!c) (K false) (L_s_Equal_api_Query_api_Query_0_0 (fun yb0 => K yb0) (fun yl1 yl2 yi3 yi4 yb5 => K true) n (logs a) (logs b) a.length ((i + 1 : Nat) : Int))) q2).trans ?_
    cases decide (a.getD i default = b.getD i default) with
    | true => rw [Bool.not_true, cbr_false, Bool.true_and]; exact ih
    | false => rw [Bool.not_false, cbr_true, Bool.false_and]
theorem qEqual_eq {a b : List Qy} (ha : a.length < 4611686018427387904) (_ : b.length < 4611686018427387904) (K : Bool → Prop) : w_s_Equal_api_Query_api_Query (logs a) (logs b) K = K (decide (a = b)) := by
  refine det_s_Equal_api_Query_api_Query _ _ _ (fun K k => ?_) K
  unfold w_s_Equal_api_Query_api_Query wv_s_Equal_api_Query_api_Query
  rw [logs_len, logs_len]
  by_cases h : a.length = b.length
  · rw [cnF (by omega)]
    refine ⟨a.length + 1, ?_⟩
    have := qEqual_loop h ha K a.length 0 (a.length + 1) (by omega) (by omega)
    rw [show ((0 : Nat) : Int) = 0 from rfl, List.drop_zero, List.drop_zero] at this
    exact this.mpr k
  · rw [cnT (by omega)]
    rw [decide_eq_false (fun e => h (by rw [e]))] at k; exact k
structure Sp where
  a : Int
  b : Int
  c : Int
  d : Int
  deriving DecidableEq
instance : Inhabited Sp := ⟨⟨0, 0, 0, 0⟩⟩
def encS (s : Sp) : PV := .agg [.int .i64 s.a, .int .i64 s.b, .int .i64 s.c, .int .i64 s.d]
def spans (l : List Sp) : List PV := l.map encS
def pieces (l : List (List Sp)) : List PV := l.map fun s => .data (spans s)
theorem spans_len (l : List Sp) : (spans l).length = l.length := List.length_map ..
theorem spans_at {l : List Sp} {i : Nat} (h : i < l.length) : List.getD (spans l) i .nils = encS (l.getD i default) := by
  unfold spans
  rw [List.getD_eq_getElem?_getD, List.getD_eq_getElem?_getD, List.getElem?_map, List.getElem?_eq_getElem h]
  rfl
theorem pieces_len (l : List (List Sp)) : (pieces l).length = l.length := List.length_map ..
theorem pieces_at {l : List (List Sp)} {i : Nat} (h : i < l.length) : List.getD (pieces l) i .nils = .data (spans (l.getD i [])) := by
  unfold pieces
  rw [List.getD_eq_getElem?_getD, List.getD_eq_getElem?_getD, List.getElem?_map, List.getElem?_eq_getElem h]
  rfl
theorem asS {s : Sp} {P : Prop} : asr (conf (.agg [.i .i64, .i .i64, .i .i64, .i .i64]) (encS s)) P = P := rfl
theorem asD {r : List PV} {P : Prop} : asr (conf (.one .d) (.data r)) P = P := rfl
theorem cSame_loop {s : List Sp} (hl : s.length < 4611686018427387904) (K : Bool → Prop) :
    ∀ (r i n : Nat), i + r = s.length → r < n → L_r03_Same_0_0 (fun yb0 => (K yb0)) (fun _ _ _ _ => (K true)) n (spans s) (spans s) i = K true
  | 0, i, n + 1, hi, hn => by
    unfold L_r03_Same_0_0
    rw [spans_len, cbF (by omega)]
  | r + 1, i, n + 1, hi, hn => by
    unfold L_r03_Same_0_0
    have e1 := wib (n := (i : Int) + 1) (by omega) (by omega)
    rw [spans_len, cbT (by omega), Int.toNat_natCast, spans_at (by omega), asT (by omega), asT (by omega), asS, asT (by omega), asT (by omega), asS, e1, cast1]
    simp only [beq_self_eq_true, Bool.and_self, Bool.not_true, cbr_false]
    exact cSame_loop hl K r (i + 1) n (by omega) (by omega)
theorem cSame_self {s : List Sp} (hl : s.length < 4611686018427387904) (K : Bool → Prop) : w_r03_Same (spans s) (spans s) K = K true := by
  refine det_r03_Same _ _ _ (fun K k => ?_) K
  unfold w_r03_Same wv_r03_Same
  rw [cnF rfl]
  refine ⟨s.length + 1, ?_⟩
  exact (cSame_loop hl K s.length 0 (s.length + 1) (by omega) (by omega)).mpr k
theorem gSame_loop {l : List (List Sp)} (hf : ∀ i, i < l.length → (l.getD i []).length < 4611686018427387904) (hl : l.length < 4611686018427387904) (K : Bool → Prop) :
    ∀ (r i n : Nat), i + r = l.length → r < n → L_r06_Same_0_0 w_r03_Same (fun yb1 => (K yb1)) (fun _ _ _ _ => (K true)) n (pieces l) (pieces l) i = K true
  | 0, i, n + 1, hi, hn => by
    unfold L_r06_Same_0_0
    rw [pieces_len, cbF (by omega)]
  | r + 1, i, n + 1, hi, hn => by
    unfold L_r06_Same_0_0
    have e1 := wib (n := (i : Int) + 1) (by omega) (by omega)
    rw [pieces_len, cbT (by omega), Int.toNat_natCast, pieces_at (by omega), asT (by omega), asT (by omega), asD, asT (by omega), asT (by omega), asD]
    show w_r03_Same (spans (l.getD i [])) (spans (l.getD i [])) _ = _
    rw [cSame_self (hf i (by omega)), Bool.not_true, cbr_false, e1, cast1]
    exact gSame_loop hf hl K r (i + 1) n (by omega) (by omega)
theorem gSame_self {l : List (List Sp)} (hf : ∀ i, i < l.length → (l.getD i []).length < 4611686018427387904) (hl : l.length < 4611686018427387904) (K : Bool → Prop) : w_r06_Same (pieces l) (pieces l) K = K true := by
  refine det_r06_Same _ _ _ (fun K k => ?_) K
  unfold w_r06_Same wv_r06_Same
  rw [cnF rfl]
  refine ⟨l.length + 1, ?_⟩
  exact (gSame_loop hf hl K l.length 0 (l.length + 1) (by omega) (by omega)).mpr k
end Go.Pf.Vc
namespace Go.Pf.Vc
open Go Go.Pf
def hlf (c : Ck) : Rat := shr c 2
def getR (e : Except Int Rat) : Rat := match e with | .ok q => q | .error _ => 0
theorem getR_of {e : Except Int Rat} {q : Rat} (h : e = .ok q) : e = .ok (getR e) ∧ getR e = q := by subst h; exact ⟨rfl, rfl⟩
def chP (l : List Ck) (c : Nat) : Rat := getR (mrkC (l.getD c default).cuts (l.getD c default).dens 0 (hlf (l.getD c default)))
def chV (l : List Ck) (c : Nat) : Rat := getR (valC (l.getD (1 - c) default).cuts (l.getD (1 - c) default).dens 0 (chP l c))
section
variable {l : List Ck}
theorem hlf_eq (c : Ck) : hlf c = (totC c.cuts c.dens : Rat) / 2 := rfl
theorem hlf_small {c : Ck} (h : c.ok) : small (hlf c) := shr_small h ⟨by omega, by omega⟩
theorem hlf_pos {c : Ck} (h : c.ok) : 0 < hlf c := by
  have := totC_pos h
  have h2 : (0 : Rat) < (totC c.cuts c.dens : Rat) := Rat.intCast_pos.2 this
  rw [hlf_eq]; grind
theorem c0_rat {c : Ck} (h : c.ok) : ((c.cuts.getD 0 0 : Int) : Rat) = 0 := by rw [h.2.2.2.2.2.1]; rfl
theorem mark_half {c : Ck} (h : c.ok) : ∃ p d, mrkC c.cuts c.dens 0 (hlf c) = .ok p ∧ (1 ≤ d ∧ d ≤ 12) ∧ Fr (2 * d) 100000 p ∧ 0 ≤ p ∧ p ≤ (c.len : Rat) := by
  have h0 := hlf_pos h
  unfold mrkC
  rw [if_neg (fun e => by rw [e] at h0; exact Rat.lt_irrefl h0), hlf_eq, ← c0_rat h]
  have tr : totC c.cuts c.dens = rem c.cuts c.dens c.dens.length 0 := by unfold totC; rw [totS_rem]; omega
  have tp := totC_pos h
  exact mrk_half h c.dens.length 0 _ (by omega) tp (by omega)
theorem chP_ok (hd : DK l) {c : Nat} (hc : c < l.length) : ∃ d, mrkC (l.getD c default).cuts (l.getD c default).dens 0 (hlf (l.getD c default)) = .ok (chP l c) ∧ (1 ≤ d ∧ d ≤ 12) ∧ Fr (2 * d) 100000 (chP l c) ∧ 0 ≤ chP l c ∧ chP l c ≤ ((l.getD 0 default).len : Rat) := by
  obtain ⟨p, d, e1, e2, e3, e4, e5⟩ := mark_half (hd.ok c hc)
  obtain ⟨g1, g2⟩ := getR_of e1
  refine ⟨d, g1, e2, ?_, ?_, ?_⟩
  · show Fr _ _ (getR _); rw [g2]; exact e3
  · show 0 ≤ getR _; rw [g2]; exact e4
  · show getR _ ≤ _; rw [g2, ← hd.len c hc]; exact e5
theorem chP_small (hd : DK l) {c : Nat} (hc : c < l.length) : small (chP l c) := by
  obtain ⟨d, _, e2, e3, _⟩ := chP_ok hd hc
  exact e3.small ⟨by omega, by omega⟩ (by omega)
theorem value_ok {c : Ck} (h : c.ok) {d : Int} (hd : 1 ≤ d ∧ d ≤ 12) {p : Rat} (hp : Fr (2 * d) 100000 p) : ∃ v, valC c.cuts c.dens 0 p = .ok v ∧ small v := by
  have l1 := VC.l1 h; have l2 := VC.l2 h
  have hb : (c.dens.length : Int) * (2400000 * (2 * d)) ≤ 40 * 57600000 := Int.mul_le_mul (by omega) (by omega) (by omega) (by omega)
  obtain ⟨s, e1, e2⟩ := val_ok (D := 2 * d) h ⟨by omega, by omega⟩ (b := p) (hp.mono (by omega)) c.dens.length 0 0 0 0 (by omega) (Fr.of_int (D := 2 * d) (by omega) 0 100000 ⟨by omega, by omega⟩) ⟨0, by omega, by omega, by grind⟩ (by omega) (by omega)
  exact ⟨s, e1, e2.small ⟨by omega, by omega⟩ (by omega)⟩
theorem chV_ok (hd : DK l) (h2 : l.length = 2) {c : Nat} (hc : c ≤ 1) : valC (l.getD (1 - c) default).cuts (l.getD (1 - c) default).dens 0 (chP l c) = .ok (chV l c) ∧ small (chV l c) := by
  obtain ⟨d, _, e2, e3, _⟩ := chP_ok hd (c := c) (by omega)
  obtain ⟨v, k1, k2⟩ := value_ok (hd.ok (1 - c) (by omega)) e2 e3
  obtain ⟨g1, g2⟩ := getR_of k1
  exact ⟨g1, by show small (getR _); rw [g2]; exact k2⟩
theorem rt01 : rt 0 1 = 0 := rt_self 0
theorem PT01 {len : Int} (h : 1 ≤ len) : PT len 0 1 := ⟨⟨by omega, by omega, by omega, by omega, rfl⟩, by omega, by omega⟩
theorem ask_mark (hd : DK l) {c : Nat} (hc : c < l.length) (m : Nat) (hm : m < 2000) : qryR l m c (Ck.mark 0 1 (hlf (l.getD c default)).num (hlf (l.getD c default)).den) = .ok (chP l c) := by
  have ok := hd.ok c hc
  have hs := hlf_small ok
  have hp := hlf_pos ok
  have hl := VC.len0 ok
  have e : Ck.mark 0 1 (hlf (l.getD c default)).num (hlf (l.getD c default)).den (l.getD c default) = .ok (chP l c) := by
    unfold Ck.mark mrkR
    rw [if_pos (VC.ck ok), if_pos ⟨PT01 hl.1, hs.rv, Rat.num_nonneg.2 (Rat.le_of_lt hp)⟩, rt01, rt_self]
    exact (chP_ok hd hc).choose_spec.1
  unfold qryR
  rw [if_pos (hd.err (by omega)), if_pos ⟨by omega, by omega⟩, Int.toNat_natCast, e]
  show (if m ≥ 2000 then _ else _) = _
  rw [if_neg (by omega)]
theorem ask_value (hd : DK l) (h2 : l.length = 2) {c : Nat} (hc : c ≤ 1) (m : Nat) (hm : m < 2000) : qryR l m ((1 - c : Nat) : Int) (Ck.value 0 1 (chP l c).num (chP l c).den) = .ok (chV l c) := by
  have ok := hd.ok (1 - c) (by omega)
  have hl := VC.len0 ok
  obtain ⟨d, e1, e2, e3, e4, e5⟩ := chP_ok hd (c := c) (by omega)
  have hs := chP_small hd (c := c) (by omega)
  have hpt : PT (l.getD (1 - c) default).len (chP l c).num (chP l c).den := PT_of hs e4 (by rw [hd.len (1 - c) (by omega)]; exact e5)
  have e : Ck.value 0 1 (chP l c).num (chP l c).den (l.getD (1 - c) default) = .ok (chV l c) := by
    unfold Ck.value valR
    rw [if_pos (VC.ck ok), rt01, rt_self, if_pos ⟨PT01 hl.1, hpt, fun h => by grind⟩]
    exact (chV_ok hd h2 hc).1
  unfold qryR
  rw [if_pos (hd.err (by omega)), if_pos ⟨by omega, by omega⟩, Int.toNat_natCast, e]
  show (if m ≥ 2000 then _ else _) = _
  rw [if_neg (by omega)]
def chQ1 (l : List Ck) (c : Nat) : Qy := ⟨c, 2, 0, 1, (hlf (l.getD c default)).num, (hlf (l.getD c default)).den, (chP l c).num, (chP l c).den⟩
def chQ2 (l : List Ck) (c : Nat) : Qy := ⟨((1 - c : Nat) : Int), 1, 0, 1, (chP l c).num, (chP l c).den, (chV l c).num, (chV l c).den⟩
def chLog (l : List Ck) (c : Nat) : Nat → List Qy
  | 0 => []
  | 1 => [chQ1 l c]
  | _ => [chQ1 l c, chQ2 l c]
def chAt (l : List Ck) (c : Nat) : Nat → Rat
  | 0 => 0
  | _ => chP l c
def chLeft (l : List Ck) (c : Nat) : Nat → Bool
  | 2 => !decide (chV l c < hlf (l.getD (1 - c) default))
  | _ => false
def stK (l : List Ck) (c k : Nat) (K : List PV → List PV → Int → Int → Int → Int → Bool → Prop) : Prop := K (cks l) (logs (chLog l c k)) c k (chAt l c k).num (chAt l c k).den (chLeft l c k)
theorem half_eq {c : Ck} (hok : c.ok) (K : Int → Int → Prop) : w_choose_half c.len (ints c.cuts) (ints c.dens) K = K (hlf c).num (hlf c).den := by
  unfold w_choose_half wv_choose_half
  have tb := totC_bound hok
  have h1 := VC.l1 hok; have h2 := VC.l2 hok
  rw [cTotal_eq (by omega) (by omega), if_pos (VC.ck hok), rMake_eq ⟨by omega, by omega⟩ ⟨by omega, by omega⟩ (by omega), fitK_if]
  have := hlf_small hok
  unfold hlf shr at this
  rw [if_pos this]; rfl
theorem qryK_ok {lg : List PV} {row : Rat → PV} {p : Rat} {K} : qryK l lg row (.ok p) K = K (cks l) (lg ++ [row p]) p.num p.den 0 := rfl
theorem cmpQ_ge (x y : Rat) : decide (cmpQ x y ≥ 0) = !decide (x < y) := by
  unfold cmpQ
  by_cases h : x < y
  · simp [h]
  · by_cases h2 : y < x <;> simp [h, h2]
theorem step0_eq (hd : DK l) (h2 : l.length = 2) {c : Nat} (hc : c ≤ 1) (K) : stK l c 0 (fun a b x y z u w => w_choose_step a b x y z u w K) = stK l c 1 K := by
  have ok := hd.ok c (by omega)
  have hs := hlf_small ok
  show w_choose_step (cks l) (logs []) c ((0 : Nat) : Int) (0 : Rat).num (0 : Rat).den false K = _
  unfold w_choose_step wv_choose_step
  rw [ceT (show ((0 : Nat) : Int) = 0 from rfl), cks_len, Int.toNat_natCast, cks_at (by omega), asT (by omega), asT (by omega), asCk, ck0, ck1, ck2, half_eq ok]
  show w_ask_Mark (cks l) (logs []) c 0 1 _ _ _ = _
  rw [
    aMark_eq hd.fin (by omega) (logs_head _) ⟨by omega, by omega⟩ ⟨by omega, by omega⟩ hs.i1 hs.i2, show (logs []).length = 0 from rfl, ask_mark hd (by omega) 0 (by omega), qryK_ok]
  rfl
theorem step1_eq (hd : DK l) (h2 : l.length = 2) {c : Nat} (hc : c ≤ 1) (K) : stK l c 1 (fun a b x y z u w => w_choose_step a b x y z u w K) = stK l c 2 K := by
  have ok := hd.ok (1 - c) (by omega)
  have hs := hlf_small ok
  have ps := chP_small hd (c := c) (by omega)
  have vs := (chV_ok hd h2 hc).2
  show w_choose_step (cks l) (logs [chQ1 l c]) c ((1 : Nat) : Int) (chP l c).num (chP l c).den false K = _
  unfold w_choose_step wv_choose_step
  have e1 : IntKind.i64.wrap (1 - (c : Int)) = ((1 - c : Nat) : Int) := by rw [wib (by omega) (by omega)]; omega
  rw [ceF (by decide), e1, aValue_eq hd.fin (by omega) (logs_head _) ⟨by omega, by omega⟩ ⟨by omega, by omega⟩ ps.i1 ps.i2, show (logs [chQ1 l c]).length = 1 from rfl, ask_value hd h2 hc 1 (by omega), qryK_ok]
  rw [cks_len, Int.toNat_natCast, cks_at (by omega), asT (by omega), asT (by omega), asCk, ck0, ck1, ck2, half_eq ok, rCmp_eq vs hs]
  rw [cmpQ_ge]; rfl
end
end Go.Pf.Vc
namespace Go.Pf.Vc
open Go Go.Pf
section
variable {l : List Ck}
def cakE (l : List Ck) (cutter : Int) : Int := if deskE l 0 = 0 then (if l.length = 2 ∧ 0 ≤ cutter ∧ cutter ≤ 1 then 0 else 2) else deskE l 0
theorem cakE_zero {cutter : Int} (h : cakE l cutter = 0) : DK l ∧ l.length = 2 ∧ ∃ c : Nat, c ≤ 1 ∧ cutter = c := by
  unfold cakE at h
  split at h
  · rename_i h0
    split at h
    · rename_i h1
      exact ⟨(deskE_zero h0).1, h1.1, cutter.toNat, by omega, by omega⟩
    · omega
  · rename_i h0; exact absurd h h0
theorem DK.cak (hd : DK l) (h2 : l.length = 2) {c : Nat} (hc : c ≤ 1) : cakE l c = 0 := by
  unfold cakE
  rw [if_pos (hd.err (by omega)), if_pos ⟨h2, by omega, by omega⟩]
theorem Start_eq (hf : finC l) (hl : l.length < 4611686018427387904) (cutter : Int) (K) : w_choose_Start (cks l) cutter K = if cakE l cutter = 0 then K (cks l) [] cutter 0 0 1 false 0 else K [] [] 0 0 0 0 false (cakE l cutter) := by
  unfold w_choose_Start wv_choose_Start
  rw [aOpen_eq hf hl, cks_len]
  by_cases h : deskE l 0 = 0
  · rw [if_pos h, cnF rfl]
    by_cases hc : l.length = 2 ∧ 0 ≤ cutter ∧ cutter ≤ 1
    · have e : cakE l cutter = 0 := by unfold cakE; rw [if_pos h, if_pos hc]
      rw [e, if_pos rfl, cnF (by omega), cbF (by omega), cbF (by omega)]
    · have e : cakE l cutter = 2 := by unfold cakE; rw [if_pos h, if_neg hc]
      rw [e, if_neg (by decide)]
      by_cases h2 : l.length = 2
      · rw [cnF (by omega)]
        by_cases h3 : cutter < 0
        · rw [cbT h3]
        · rw [cbF h3, cbT (by omega)]
      · rw [cnT (by omega)]
  · have e : cakE l cutter = deskE l 0 := by unfold cakE; rw [if_neg h]
    rw [e, if_neg h, cnT h, if_neg h]
theorem rCakes_eq (hf : finC l) (hl : l.length < 4611686018427387904) (cutter : Int) (K) : w_r07_Cakes (cks l) cutter K = K (cakE l cutter) := by
  unfold w_r07_Cakes wv_r07_Cakes cakE
  rw [fCheck_eq hf hl, cks_len]
  show cbr (deskE l 0 != 0) _ _ = _
  by_cases h : deskE l 0 = 0
  · rw [cnF h, if_pos h]
    by_cases h2 : l.length = 2
    · rw [cnF (by omega)]
      by_cases h3 : cutter < 0
      · rw [cbT h3, if_neg (fun x => by omega)]
      · rw [cbF h3]
        by_cases h4 : cutter > 1
        · rw [cbT h4, if_neg (fun x => by omega)]
        · rw [cbF h4, if_pos ⟨h2, by omega, by omega⟩]
    · rw [cnT (by omega), if_neg (fun x => h2 x.1)]
  · rw [cnT h, if_neg h]; rfl
theorem stepA (hd : DK l) (h2 : l.length = 2) {c : Nat} (hc : c ≤ 1) (K) : w_choose_step (cks l) [] c 0 0 1 false K = K (cks l) (logs (chLog l c 1)) c 1 (chP l c).num (chP l c).den false := step0_eq hd h2 hc K
theorem stepB (hd : DK l) (h2 : l.length = 2) {c : Nat} (hc : c ≤ 1) (K) : w_choose_step (cks l) (logs (chLog l c 1)) c 1 (chP l c).num (chP l c).den false K = K (cks l) (logs (chLog l c 2)) c 2 (chP l c).num (chP l c).den (chLeft l c 2) := step1_eq hd h2 hc K
def chkE (l : List Ck) (lg : List Qy) (cutter step an ad : Int) (left : Bool) : Int :=
  if deskE l lg.length = 0 then (if cakE l cutter = 0 then (if 0 ≤ step ∧ step ≤ 2 ∧ lg = chLog l cutter.toNat step.toNat ∧ an = (chAt l cutter.toNat step.toNat).num ∧ ad = (chAt l cutter.toNat step.toNat).den ∧ left = chLeft l cutter.toNat step.toNat then 0 else 8) else cakE l cutter) else deskE l lg.length
theorem chLog_len (l : List Ck) (c k : Nat) : (chLog l c k).length ≤ 2 := by
  match k with
  | 0 => exact Nat.zero_le _
  | 1 => exact Nat.le_succ _
  | k + 2 => exact Nat.le_refl _
theorem chk_end {c k : Nat} {lg : List Qy} (hlg : lg.length < 4611686018427387904) {step an ad : Int} {left : Bool} (hk : k ≤ 2) (K : Int → Prop)
    (hmin : (k : Int) = step ∨ ¬ (0 ≤ step ∧ step ≤ 2)) :
    cbr ((k : Int) != step) (K 8) (cbr (!(((chAt l c k).num == an) && ((((chAt l c k).den : Nat) : Int) == ad && true))) (K 8) (cbr (chLeft l c k != left) (K 8) (w_s_Equal_api_Query_api_Query (logs (chLog l c k)) (logs lg) (fun yb38 => (cbr (!yb38) (K 8) (K 0)))))) =
    K (if 0 ≤ step ∧ step ≤ 2 ∧ lg = chLog l c step.toNat ∧ an = (chAt l c step.toNat).num ∧ ad = (chAt l c step.toNat).den ∧ left = chLeft l c step.toNat then 0 else 8) := by
  have hcl := chLog_len l c k
  by_cases e : (k : Int) = step
  · subst e
    rw [cnF rfl, Int.toNat_natCast, qEqual_eq (by omega) hlg]
    by_cases e1 : (chAt l c k).num = an
    · by_cases e2 : ((chAt l c k).den : Int) = ad
      · rw [beq_t e1, beq_t e2]
        show cbr (!(true && (true && true))) _ _ = _
        simp only [Bool.and_self, Bool.not_true, cbr_false]
        by_cases e3 : chLeft l c k = left
        · have b3 : (chLeft l c k != left) = false := by simp [e3]
          rw [b3, cbr_false]
          by_cases e4 : chLog l c k = lg
          · rw [decide_eq_true e4, Bool.not_true, cbr_false, if_pos ⟨by omega, by omega, e4.symm, e1.symm, e2.symm, e3.symm⟩]
          · rw [decide_eq_false e4, Bool.not_false, cbr_true, if_neg (fun x => e4 x.2.2.1.symm)]
        · have b3 : (chLeft l c k != left) = true := by simpa using e3
          rw [b3, cbr_true, if_neg (fun x => e3 x.2.2.2.2.2.symm)]
      · rw [beq_f e2, Bool.false_and, Bool.and_false, Bool.not_false, cbr_true, if_neg (fun x => e2 x.2.2.2.2.1.symm)]
    · rw [beq_f e1, Bool.false_and, Bool.not_false, cbr_true, if_neg (fun x => e1 x.2.2.2.1.symm)]
  · rw [cnT e, if_neg (fun x => (hmin.resolve_left e) ⟨x.1, x.2.1⟩)]
theorem Check_eq' (hf : finC l) (hl : l.length < 4611686018427387904) {lg : List Qy} (hlg : lg.length < 4611686018427387904) (cutter step an ad : Int) (left : Bool) (K : Int → Prop) :
    w_choose_Check (cks l) (logs lg) cutter step an ad left K = K (chkE l lg cutter step an ad left) := by
  refine det_choose_Check _ _ _ _ _ _ _ _ (fun K kk => ?_) K
  unfold w_choose_Check wv_choose_Check
  unfold chkE at kk
  rw [aCheck_eq hf hl, logs_len]
  by_cases h : deskE l lg.length = 0
  case neg => rw [cnT h]; rw [if_neg h] at kk; exact kk
  rw [if_pos h] at kk
  rw [cnF h, Start_eq hf hl]
  by_cases hc0 : cakE l cutter = 0
  case neg => rw [if_neg hc0, cnT hc0]; rw [if_neg hc0] at kk; exact kk
  rw [if_pos hc0] at kk
  rw [if_pos hc0, cnF rfl]
  obtain ⟨hd, h2, c, hc, rfl⟩ := cakE_zero hc0
  rw [Int.toNat_natCast] at kk
  by_cases t0 : step ≤ 0
  · refine ⟨0 + 1, ?_⟩
    rw [L_choose_Check_0_0, cbF (by split <;> omega)]
    refine (chk_end (l := l) (c := c) (k := 0) hlg (by omega) K (by omega)).mpr kk
  by_cases t1 : step = 1
  · subst t1
    refine ⟨(0 + 1) + 1, ?_⟩
    rw [L_choose_Check_0_0, cbT (by decide), stepA hd h2 hc, L_choose_Check_0_1, cbF (by decide)]
    exact (chk_end (l := l) (c := c) (k := 1) hlg (by omega) K (by omega)).mpr kk
  · refine ⟨((0 + 1) + 1) + 1, ?_⟩
    rw [L_choose_Check_0_0, cbT (by split <;> omega), stepA hd h2 hc, L_choose_Check_0_1, cbT (by split <;> omega), stepB hd h2 hc, L_choose_Check_0_1, cbF (by split <;> omega)]
    exact (chk_end (l := l) (c := c) (k := 2) hlg (by omega) K (by omega)).mpr kk
def spL (l : List Ck) (c : Nat) : Sp := ⟨0, 1, (chP l c).num, (chP l c).den⟩
def spR (l : List Ck) (c : Nat) : Sp := ⟨(chP l c).num, (chP l c).den, (l.getD 0 default).len, 1⟩
def chDiv (l : List Ck) (c : Nat) : List (List Sp) := if chLeft l c 2 = decide (c = 1) then [[spL l c], [spR l c]] else [[spR l c], [spL l c]]
theorem prog_div (h2 : l.length = 2) {c : Nat} (hc : c ≤ 1) (hchk : chkE l (chLog l c 2) c 2 (chP l c).num (chP l c).den (chLeft l c 2) = 0) (hf : finC l) (K) : w_choose_Division (cks l) (logs (chLog l c 2)) c 2 (chP l c).num (chP l c).den (chLeft l c 2) K = K (pieces (chDiv l c)) 0 := by
  unfold w_choose_Division wv_choose_Division
  have hcl := chLog_len l c 2
  rw [Check_eq' hf (by omega) (by omega), hchk, cnF rfl, cbF (by decide)]
  unfold chDiv
  rw [cks_len, cks_at (by omega), h2]
  rcases (show c = 0 ∨ c = 1 by omega) with rfl | rfl
  · cases chLeft l 0 2 <;> rfl
  · cases chLeft l 1 2 <;> rfl
end
end Go.Pf.Vc
namespace Go.Pf.Vc
open Go Go.Pf
section
variable {l : List Ck}
theorem chk_state (hd : DK l) (h2 : l.length = 2) {c k : Nat} (hc : c ≤ 1) (hk : k ≤ 2) : chkE l (chLog l c k) c k (chAt l c k).num (chAt l c k).den (chLeft l c k) = 0 := by
  have := chLog_len l c k
  unfold chkE
  rw [if_pos (hd.err (by omega)), if_pos (hd.cak h2 hc), Int.toNat_natCast, Int.toNat_natCast, if_pos ⟨by omega, by omega, rfl, rfl, rfl, rfl⟩]
theorem Run_eq (hf : finC l) (hl : l.length < 4611686018427387904) (cutter : Int) (K) : w_choose_Run (cks l) cutter K = if cakE l cutter = 0 then K (pieces (chDiv l cutter.toNat)) (logs (chLog l cutter.toNat 2)) 0 else K [] [] (cakE l cutter) := by
  unfold w_choose_Run wv_choose_Run
  rw [Start_eq hf hl]
  by_cases h : cakE l cutter = 0
  · obtain ⟨hd, h2, c, hc, rfl⟩ := cakE_zero h
    rw [if_pos h, if_pos h, cnF rfl, Int.toNat_natCast, stepA hd h2 hc, stepB hd h2 hc, prog_div h2 hc (chk_state hd h2 hc (k := 2) (by omega)) hf]
  · rw [if_neg h, if_neg h, cnT h]
theorem chDiv_small (l : List Ck) (c : Nat) : (chDiv l c).length = 2 ∧ ∀ i, i < (chDiv l c).length → ((chDiv l c).getD i []).length < 4611686018427387904 := by
  unfold chDiv
  split <;> refine ⟨rfl, fun i hi => ?_⟩ <;> (have hi : i < 2 := hi) <;> rcases (show i = 0 ∨ i = 1 by omega) with rfl | rfl <;> exact (by decide : (1 : Nat) < 4611686018427387904)
theorem chDiv_same (l : List Ck) (c : Nat) (K : Bool → Prop) : w_r06_Same (pieces (chDiv l c)) (pieces (chDiv l c)) K = K true := by
  obtain ⟨h1, h2⟩ := chDiv_small l c
  exact gSame_self h2 (by omega) K
end
end Go.Pf.Vc
namespace Go.Pf.Vc
open Go Go.Pf
def dsC : DS := .a [.i .i64, .s (.i .i64), .s (.i .i64)]
theorem inK_i64 {n : Int} (h : inK .i64 n) : I64 n := by
  have e1 : IntKind.i64.min = -9223372036854775808 := by decide
  have e2 : IntKind.i64.max = 9223372036854775807 := by decide
  unfold inK at h
  rw [e1, e2] at h
  exact h
theorem F_i {c : List PV} (h : HasF (.i .i64) c) : ∃ n, c = [.int .i64 n] ∧ I64 n := by
  simp only [HasF] at h
  obtain ⟨n, e, k⟩ := h
  exact ⟨n, e, inK_i64 k⟩
theorem ints_of : ∀ (rows : List PV), (∀ x ∈ rows, x.isAgg = (DS.i .i64).isA ∧ HasF (.i .i64) x.cells) → ∃ l : List Int, rows = ints l ∧ ∀ n ∈ l, I64 n
  | [], _ => ⟨[], rfl, by simp⟩
  | x :: r, h => by
    obtain ⟨l, e, hl⟩ := ints_of r (fun y hy => h y (List.mem_cons_of_mem _ hy))
    obtain ⟨h1, h2⟩ := h x (List.mem_cons_self ..)
    obtain ⟨n, e2, hn⟩ := F_i h2
    have ex : x = .int .i64 n := by
      cases x <;> first | (simp only [PV.cells, List.cons.injEq, and_true] at e2; exact e2) | (cases h1)
    refine ⟨n :: l, by rw [ex, e]; rfl, ?_⟩
    intro m hm
    rcases List.mem_cons.1 hm with rfl | hm
    · exact hn
    · exact hl m hm
def Ck.i64 (c : Ck) : Prop := I64 c.len ∧ (∀ n ∈ c.cuts, I64 n) ∧ ∀ n ∈ c.dens, I64 n
theorem F_c {c : List PV} (h : HasF dsC c) : ∃ k : Ck, c = [.int .i64 k.len, .data (ints k.cuts), .data (ints k.dens)] ∧ k.i64 ∧ k.cuts.length ≤ 9223372036854775807 ∧ k.dens.length ≤ 9223372036854775807 := by
  simp only [dsC, HasF, HasL] at h
  obtain ⟨c1, c2, rfl, ⟨n, rfl, hn⟩, c3, c4, rfl, ⟨r1, rfl, l1, h1⟩, c5, c6, rfl, ⟨r2, rfl, l2, h2⟩, rfl⟩ := h
  obtain ⟨a, rfl, ha⟩ := ints_of r1 (fun x hx => ⟨(h1 x hx).1, by simp only [HasF]; exact (h1 x hx).2⟩)
  obtain ⟨b, rfl, hb⟩ := ints_of r2 (fun x hx => ⟨(h2 x hx).1, by simp only [HasF]; exact (h2 x hx).2⟩)
  rw [ints_len] at l1 l2
  exact ⟨⟨n, a, b⟩, rfl, ⟨inK_i64 hn, ha, hb⟩, l1, l2⟩
theorem agg_of {x : PV} {l : List DS} (h : x.isAgg = (DS.a l).isA) : x = .agg x.cells := by
  cases x <;> first | rfl | cases h
theorem cks_of : ∀ (rows : List PV), (∀ x ∈ rows, x.isAgg = dsC.isA ∧ HasF dsC x.cells) → ∃ l : List Ck, rows = cks l ∧ ∀ c ∈ l, c.i64
  | [], _ => ⟨[], rfl, by simp⟩
  | x :: r, h => by
    obtain ⟨l, e, hl⟩ := cks_of r (fun y hy => h y (List.mem_cons_of_mem _ hy))
    obtain ⟨h1, h2⟩ := h x (List.mem_cons_self ..)
    obtain ⟨k, e2, hk, _⟩ := F_c h2
    have ex : x = encC k := by rw [agg_of h1, e2]; rfl
    refine ⟨k :: l, by rw [ex, e]; rfl, ?_⟩
    intro m hm
    rcases List.mem_cons.1 hm with rfl | hm
    · exact hk
    · exact hl m hm
theorem F_cks {c : List PV} (h : HasF (.s dsC) c) : ∃ l : List Ck, c = [.data (cks l)] ∧ l.length ≤ 9223372036854775807 ∧ ∀ k ∈ l, k.i64 := by
  simp only [HasF] at h
  obtain ⟨rows, rfl, hl, hr⟩ := h
  obtain ⟨l, rfl, hi⟩ := cks_of rows hr
  rw [cks_len] at hl
  exact ⟨l, rfl, hl, hi⟩
theorem single_of {x y : PV} (h : x.isAgg = false) (e : x.cells = [y]) : x = y := by
  cases x <;> first | (simp only [PV.cells, List.cons.injEq, and_true] at e; exact e) | cases h
theorem A_cks_i {as : List PV} (h : HasAs [.s dsC, .i .i64] as) : ∃ (l : List Ck) (n : Int), as = [.data (cks l), .int .i64 n] ∧ l.length ≤ 9223372036854775807 ∧ I64 n ∧ ∀ k ∈ l, k.i64 := by
  simp only [HasAs] at h
  obtain ⟨x, r, rfl, x1, x2, y, r2, rfl, y1, y2, rfl⟩ := h
  obtain ⟨l, e1, hl, hi⟩ := F_cks x2
  obtain ⟨n, e2, hn⟩ := F_i y2
  rw [single_of x1 e1, single_of y1 e2]
  exact ⟨l, n, rfl, hl, hn, hi⟩
end Go.Pf.Vc
namespace Go.Pf.Vc
open Go Go.Pf
section
variable {l : List Ck}
theorem fit_eq (hl : l.length ≤ 9223372036854775807) (cutter : Int) (K : Bool → Prop) : w_l07_fit (cks l) cutter K = K (!greatC l && decide (cakE l cutter = 0)) := by
  unfold w_l07_fit wv_l07_fit
  rw [GreatCakes_eq hl]
  cases hg : greatC l with
  | true => rfl
  | false =>
    obtain ⟨g1, g2, g3⟩ := greatC_low hg
    rw [show (!false) = true from rfl, cbr_true, rCakes_eq g3 (by omega)]
    rfl
end
def twoL : List Ck := [⟨2, [0, 2], [1]⟩, ⟨2, [0, 1, 2], [3, 1]⟩]
theorem twoL_fin : finC twoL := by
  intro i hi
  have h : i < 2 := hi
  rcases i with _ | _ | i
  · exact ⟨by decide, by decide⟩
  · exact ⟨by decide, by decide⟩
  · omega
theorem two0 : cakE twoL 0 = 0 := by decide +kernel
theorem two1 : cakE twoL 1 = 0 := by decide +kernel
theorem div0 : chDiv twoL 0 = [[⟨1, 1, 2, 1⟩], [⟨0, 1, 1, 1⟩]] := by decide +kernel
theorem div1 : chDiv twoL 1 = [[⟨2, 3, 2, 1⟩], [⟨0, 1, 2, 3⟩]] := by decide +kernel
theorem alive_eq (K : Bool → Prop) : w_l07_alive K = K true := by
  unfold w_l07_alive wv_l07_alive
  have h0 : ∀ K, w_choose_Run (cks twoL) 0 K = K (pieces [[⟨1, 1, 2, 1⟩], [⟨0, 1, 1, 1⟩]]) (logs (chLog twoL 0 2)) 0 := fun K => by
    rw [Run_eq twoL_fin (by decide), if_pos two0, show (0 : Int).toNat = 0 from rfl, div0]
  have h1 : ∀ K, w_choose_Run (cks twoL) 1 K = K (pieces [[⟨2, 3, 2, 1⟩], [⟨0, 1, 2, 3⟩]]) (logs (chLog twoL 1 2)) 0 := fun K => by
    rw [Run_eq twoL_fin (by decide), if_pos two1, show (1 : Int).toNat = 1 from rfl, div1]
  have s0 : ∀ K : Bool → Prop, w_r06_Same (pieces [[⟨1, 1, 2, 1⟩], [⟨0, 1, 1, 1⟩]]) (pieces [[⟨1, 1, 2, 1⟩], [⟨0, 1, 1, 1⟩]]) K = K true := fun K => by
    rw [← div0]; exact chDiv_same twoL 0 K
  have s1 : ∀ K : Bool → Prop, w_r06_Same (pieces [[⟨2, 3, 2, 1⟩], [⟨0, 1, 2, 3⟩]]) (pieces [[⟨2, 3, 2, 1⟩], [⟨0, 1, 2, 3⟩]]) K = K true := fun K => by
    rw [← div1]; exact chDiv_same twoL 1 K
  have o : ∀ (n : Int) K, w_r01_Of n K = K n 1 := fun _ _ => rfl
  have t : ∀ K, w_l07_two K = K (cks twoL) := fun _ => rfl
  have p : ∀ (a b c d : Int) K, w_l07_piece a b c d K = K (spans [⟨a, b, c, d⟩]) := fun _ _ _ _ _ => rfl
  rw [o, o, o, t, h0, t, h1, ceT rfl, p, p]
  change w_r06_Same (pieces [[⟨1, 1, 2, 1⟩], [⟨0, 1, 1, 1⟩]]) (pieces [[⟨1, 1, 2, 1⟩], [⟨0, 1, 1, 1⟩]]) _ = K true
  rw [s0, cbr_true, ceT rfl]
  change cbr ((2 : Int) == 2) _ _ = K true
  rw [ceT rfl, p, p]
  change w_r06_Same (pieces [[⟨2, 3, 2, 1⟩], [⟨0, 1, 2, 3⟩]]) (pieces [[⟨2, 3, 2, 1⟩], [⟨0, 1, 2, 3⟩]]) _ = K true
  exact s1 K
theorem DK.turn {x y : Ck} (h : DK [x, y]) : DK [y, x] where
  n6 := show 2 ≤ 6 by decide
  n0 := show 1 ≤ 2 by decide
  ok := fun i hi => by
    have hi : i < 2 := hi
    rcases i with _ | _ | i
    · exact h.ok 1 (show 1 < 2 by decide)
    · exact h.ok 0 (show 0 < 2 by decide)
    · omega
  len := fun i hi => by
    have hi : i < 2 := hi
    rcases i with _ | _ | i
    · rfl
    · exact (h.len 1 (show 1 < 2 by decide)).symm
    · omega
theorem chP_turn (x y : Ck) {c : Nat} (hc : c ≤ 1) : chP [y, x] (1 - c) = chP [x, y] c := by
  rcases c with _ | _ | c
  · rfl
  · rfl
  · omega
theorem chLeft_turn (x y : Ck) {c : Nat} (hc : c ≤ 1) : chLeft [y, x] (1 - c) 2 = chLeft [x, y] c 2 := by
  rcases c with _ | _ | c
  · rfl
  · rfl
  · omega
theorem chDiv_turn {x y : Ck} (hxy : x.len = y.len) {c : Nat} (hc : c ≤ 1) : chDiv [y, x] (1 - c) = (chDiv [x, y] c).reverse := by
  unfold chDiv
  rw [chLeft_turn x y hc]
  have eL : spL [y, x] (1 - c) = spL [x, y] c := by unfold spL; rw [chP_turn x y hc]
  have eR : spR [y, x] (1 - c) = spR [x, y] c := by
    unfold spR; rw [chP_turn x y hc]
    change (⟨_, _, y.len, 1⟩ : Sp) = ⟨_, _, x.len, 1⟩
    rw [hxy]
  rw [eL, eR]
  have e : decide (1 - c = 1) = !decide (c = 1) := by
    rcases c with _ | _ | c
    · rfl
    · rfl
    · omega
  rw [e]
  cases chLeft [x, y] c 2 <;> cases decide (c = 1) <;> rfl
theorem chDiv_two (l : List Ck) (c : Nat) : ∃ a b, chDiv l c = [a, b] := by
  unfold chDiv
  split
  · exact ⟨_, _, rfl⟩
  · exact ⟨_, _, rfl⟩
theorem ChooseTurned_ok {l : List Ck} (hl : l.length ≤ 9223372036854775807) (cutter : Int) : w_l07_ChooseTurned (cks l) cutter (fun b => b = true) := by
  unfold w_l07_ChooseTurned wv_l07_ChooseTurned
  rw [fit_eq hl]
  by_cases hf : (!greatC l && decide (cakE l cutter = 0)) = true
  · rw [hf, show (!true) = false from rfl, cbr_false]
    simp only [Bool.and_eq_true, Bool.not_eq_true', decide_eq_true_eq] at hf
    obtain ⟨hg, hz⟩ := hf
    obtain ⟨g1, g2, g3⟩ := greatC_low hg
    obtain ⟨hd, h2, c, hc, rfl⟩ := cakE_zero hz
    obtain ⟨x, y, rfl⟩ : ∃ x y, l = [x, y] := by
      match l, h2 with
      | [x, y], _ => exact ⟨x, y, rfl⟩
    have hw : IntKind.i64.wrap ((1 : Int) - (c : Int)) = ((1 - c : Nat) : Int) := by
      rcases c with _ | _ | c
      · decide
      · decide
      · omega
    have hxy : x.len = y.len := (hd.len 1 (show 1 < 2 by decide)).symm
    rw [Run_eq g3 (by omega), if_pos hz, Int.toNat_natCast]
    change asr (decide ((1 : Int) < 2)) _
    rw [asT (by decide)]
    change asr true _
    rw [asr_true]
    change asr (decide ((0 : Int) < 2)) _
    rw [asT (by decide)]
    change asr true _
    rw [asr_true]
    change w_choose_Run (cks [y, x]) _ _
    rw [hw, Run_eq hd.turn.fin (show 2 < 4611686018427387904 by decide), if_pos (hd.turn.cak rfl (by omega)), Int.toNat_natCast, cnF rfl, cnF rfl, chDiv_turn hxy hc]
    obtain ⟨a, b, e⟩ := chDiv_two [x, y] c
    have same := gSame_self (l := [b, a]) (by
      have h := chDiv_small [y, x] (1 - c)
      rw [chDiv_turn hxy hc, e] at h
      exact h.2) (show 2 < 4611686018427387904 by decide)
    rw [e]
    change cbr ((2 : Int) != 2) _ _
    rw [cnF rfl]
    change asr (decide ((1 : Int) < 2)) _
    rw [asT (by decide)]
    change asr true _
    rw [asr_true]
    change asr (decide ((0 : Int) < 2)) _
    rw [asT (by decide)]
    change asr true _
    rw [asr_true]
    change w_r06_Same (pieces [b, a]) (pieces [b, a]) _
    rw [same, cbr_true, alive_eq]
  · have hf : (!greatC l && decide (cakE l cutter = 0)) = false := by simpa using hf
    rw [hf, show (!false) = true from rfl, cbr_true, alive_eq]
end Go.Pf.Vc
