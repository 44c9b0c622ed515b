/- The framework, part 17: append. -/
import Derived.Test.YthlajkcfbpfmdaaFw16
import Derived.Lib.AppendZeros
namespace Go.Pf
open Go Go.RowKit
section
variable {P : Program} {E : Env} {nt : Nat} {g g' : Gh} {F : Frm} {H H' : Hp} {a : Act} {tmps : Array Value} {w w' : World} {o : Oper} {out : Out}

theorem At.append {b o : Nat} {u v : List Value} (h : At w b o u) (k : At w b (o + u.length) v) : At w b o (u ++ v) := by
  intro j x hj
  rw [List.getElem?_append] at hj
  split at hj
  · exact h j x hj
  · have := k (j - u.length) x hj
    rwa [show o + u.length + (j - u.length) = o + j from by omega] at this

theorem Lie.nil {pu : Bool} {esz : Nat} : Lie g H w pu esz [] [] := ⟨by simp, fun i x h => by simp at h⟩

theorem Lie.append {pu : Bool} {esz : Nat} {r1 r2 : List PV} {c1 c2 rest : List Value} (h1 : Lie g H w pu esz r1 c1) (e1 : c1.length = r1.length * esz) (h2 : Lie g H w pu esz r2 c2) : Lie g H w pu esz (r1 ++ r2) (c1 ++ c2 ++ rest) := by
  refine ⟨?_, fun i x hx => ?_⟩
  · simp only [List.length_append, Nat.add_mul]; have := h2.1; omega
  · rw [List.getElem?_append] at hx
    split at hx
    · rename_i hi
      have hmul : i * esz + esz ≤ r1.length * esz := by
        have : (i + 1) * esz ≤ r1.length * esz := Nat.mul_le_mul_right _ hi
        rwa [Nat.add_mul, Nat.one_mul] at this
      have e : seg (c1 ++ c2 ++ rest) (i * esz) esz = seg c1 (i * esz) esz := by
        simp only [seg]
        rw [List.append_assoc, List.drop_append_of_le_length (by omega), List.take_append_of_le_length (by rw [List.length_drop]; omega)]
      rw [e]; exact h1.2 i x hx
    · rename_i hi
      have hi2 : i - r1.length < r2.length := llt hx
      have hmul : (i - r1.length) * esz + esz ≤ r2.length * esz := by
        have : (i - r1.length + 1) * esz ≤ r2.length * esz := Nat.mul_le_mul_right _ hi2
        rwa [Nat.add_mul, Nat.one_mul] at this
      have e : seg (c1 ++ c2 ++ rest) (i * esz) esz = seg c2 ((i - r1.length) * esz) esz := by
        have h3 : i * esz = c1.length + (i - r1.length) * esz := by
          rw [e1, ← Nat.add_mul]; congr 1; omega
        simp only [seg]
        rw [List.append_assoc, h3, List.drop_append, Nat.add_sub_cancel_left, List.drop_of_length_le (by omega), List.nil_append]
        rw [List.drop_append_of_le_length (by have := h2.1; omega), List.take_append_of_le_length (by rw [List.length_drop]; have := h2.1; omega)]
      rw [e]; exact h2.2 _ x hx

theorem Lie.one {pu : Bool} {esz : Nat} {rows : List PV} {cells : List Value} (hz : 0 < esz) (h : Lie g H w pu esz rows cells) (e : cells.length = rows.length * esz) : ∀ u ∈ cells, u.oneCell' = true := by
  intro u hu
  obtain ⟨j, hj⟩ := List.getElem?_of_mem hu
  have hlt := llt hj
  have hd : j / esz < rows.length := (Nat.div_lt_iff_lt_mul hz).2 (by omega)
  have hr := (h.2 (j / esz) rows[j / esz] (List.getElem?_eq_getElem hd)).1
  have hm : j % esz < esz := Nat.mod_lt _ hz
  have hin : (seg cells (j / esz * esz) esz)[j % esz]? = some u := by
    rw [seg_get, if_pos hm, Nat.div_add_mod']; exact hj
  exact VCs_one _ _ (RowR_cells hr) u (List.mem_of_getElem? hin)

/-- The cells of rows. -/
theorem RowsR_cells (esz b : Nat) : ∀ (rows : List PV) (o : Nat), RowsR g H w rows esz b o → ∃ news, news.length = rows.length * esz ∧ At w b o news
  | [], o, _ => ⟨[], by simp, fun j u h => by simp at h⟩
  | x :: r, o, h => by
    simp only [RowsR] at h
    obtain ⟨⟨vs, h1, h2, h3⟩, h4⟩ := h
    obtain ⟨news, h5, h6⟩ := RowsR_cells esz b r (o + esz) h4
    refine ⟨vs ++ news, by rw [List.length_append, h5, List.length_cons, Nat.add_mul]; omega, h3.append (by rw [h1]; exact h6)⟩

theorem seg_at {b o p n : Nat} {news vs : List Value} (h1 : At w b o news) (h2 : At w b (o + p) vs) (hl : vs.length = n) (hle : p + n ≤ news.length) : seg news p n = vs := by
  apply List.ext_getElem?
  intro j
  rw [seg_get]
  by_cases hj : j < n
  · rw [if_pos hj]
    have e1 : news[p + j]? = some news[p + j] := List.getElem?_eq_getElem (by omega)
    have e2 : vs[j]? = some vs[j] := List.getElem?_eq_getElem (by omega)
    have k1 := h1 _ _ e1
    have k2 := h2 _ _ e2
    rw [show o + (p + j) = o + p + j from by omega] at k1
    rw [k1] at k2
    rw [e1, e2]; exact k2
  · rw [if_neg hj, List.getElem?_eq_none (by omega)]

theorem Lie_of_rows {pu : Bool} {esz b o : Nat} {rows : List PV} {news : List Value} (hR : RowsR g H w rows esz b o) (hC : pu = true → RowsC g.I w rows esz b o) (hl : news.length = rows.length * esz) (hat : At w b o news) : Lie g H w pu esz rows news := by
  refine ⟨by omega, fun i x hx => ?_⟩
  have hi := llt hx
  have hmul : i * esz + esz ≤ rows.length * esz := by
    have : (i + 1) * esz ≤ rows.length * esz := Nat.mul_le_mul_right _ hi
    rwa [Nat.add_mul, Nat.one_mul] at this
  obtain ⟨vs, h1, h2, h3⟩ := RowsR_get rows esz b o i x hR hx
  rw [seg_at hat h3 h1 (by omega)]
  refine ⟨h2, fun hp => ?_⟩
  obtain ⟨us, k1, k2, k3⟩ := RowsC_get rows esz b o i x (hC hp) hx
  have : us = vs := by rw [← seg_at hat h3 h1 (by omega), ← seg_at hat k3 k1 (by omega)]
  subst this; exact k2

theorem RowsR_seg {l : List PV} {esz b o : Nat} (h : RowsR g H w l esz b o) (lo n : Nat) : RowsR g H w ((l.drop lo).take n) esz b (o + lo * esz) := by
  refine RowsR_mk _ _ _ _ fun i x hx => ?_
  rw [List.getElem?_take] at hx
  split at hx
  · rw [List.getElem?_drop] at hx
    obtain ⟨vs, h1, h2, h3⟩ := RowsR_get l esz b o (lo + i) x h hx
    exact ⟨vs, h1, h2, by rw [show o + lo * esz + i * esz = o + (lo + i) * esz from by rw [Nat.add_mul]; omega]; exact h3⟩
  · cases hx

/-- The source of an append. -/
theorem src_cells (hr : Rel E nt g F H tmps w) {x : PV} {v : Value} {ys : List PV} {esz : Nat} {pu : Bool} (hz : 0 < esz) (h : VR g H w x v) (hy : rowsOf H x = some ys) (hh : headOk esz ys = true) (hs : srcOk H pu x = true) :
    ∃ ad c news, v = .slice ad ys.length c ∧ ys.length ≤ c ∧ c ≤ maxLen ∧ news.length = ys.length * esz ∧ Lie g H w pu esz ys news ∧ (ys ≠ [] → ∃ b o, ad = some ⟨b, o, none⟩ ∧ At w b o news) := by
  have nil : ∀ ad c, v = .slice ad 0 c → c ≤ maxLen → ys = [] → ∃ ad c news, v = .slice ad ys.length c ∧ ys.length ≤ c ∧ c ≤ maxLen ∧ news.length = ys.length * esz ∧ Lie g H w pu esz ys news ∧ (ys ≠ [] → ∃ b o, ad = some ⟨b, o, none⟩ ∧ At w b o news) := by
    intro ad c hv hc hys
    subst hys; subst hv
    exact ⟨ad, c, [], rfl, Nat.zero_le _, hc, by simp, Lie.nil, fun h => absurd rfl h⟩
  have put : ∀ (b o c : Nat) (rows : List PV), v = .slice (some ⟨b, o, none⟩) rows.length c → rows.length ≤ c → c ≤ maxLen → rows = ys → RowsR g H w rows esz b o → (pu = true → RowsC g.I w rows esz b o) → ∃ ad c news, v = .slice ad ys.length c ∧ ys.length ≤ c ∧ c ≤ maxLen ∧ news.length = ys.length * esz ∧ Lie g H w pu esz ys news ∧ (ys ≠ [] → ∃ b o, ad = some ⟨b, o, none⟩ ∧ At w b o news) := by
    intro b o c rows hv hc hm hys hR hC
    subst hys; subst hv
    obtain ⟨news, h1, h2⟩ := RowsR_cells esz b rows o hR
    exact ⟨_, c, news, rfl, hc, hm, h1, Lie_of_rows hR hC h1 h2, fun _ => ⟨b, o, rfl, h2⟩⟩
  unfold rowsOf at hy
  split at hy
  · cases hy; simp only [VR] at h; exact nil _ _ h (Nat.zero_le _) rfl
  · cases hy; simp only [VR] at h; obtain ⟨ad, h⟩ := h; exact nil _ _ h (Nat.zero_le _) rfl
  · cases hy; simp only [VR] at h; obtain ⟨ad, c, h, hc, _⟩ := h; exact nil _ _ h hc rfl
  · cases hy
    simp only [VR, RC] at h
    obtain ⟨ad, len, cap, e1, hlen, hc, hm, hrest⟩ := h
    simp only [List.cons.injEq, and_true] at e1
    subst hlen
    rcases hrest with hrest | ⟨b, o1, esz', rfl, hI, hz', hrows⟩
    · subst hrest
      exact nil _ _ e1 hm rfl
    · have he : ys = [] ∨ esz' = esz := by
        cases ys with
        | nil => exact .inl rfl
        | cons y r =>
          right
          simp only [headOk, beq_iff_eq] at hh
          simp only [RowsC] at hrows
          obtain ⟨⟨vs, q1, q2, _⟩, _⟩ := hrows
          rw [← q1, RC_cells_len q2, hh]
      rcases he with he | rfl
      · subst he; exact nil _ _ e1 hm rfl
      · exact put b o1 cap ys e1 hc hm rfl (RowsR_of_RowsC hrows) (fun _ => hrows)
  · rename_i id lo len ext cap
    split at hy
    · rename_i hb e
      split at hy
      · rename_i hcnd
        cases hy
        simp only [VR] at h
        obtain ⟨hb', ad, c, e', hle, hv, hc, hm, hcc, hcond⟩ := h
        rw [e] at e'; cases e'
        obtain ⟨b, o1, hρ, hle2, had, hcap, cur, T, hh1, hfit⟩ := hcond hcnd.1
        obtain ⟨b', o', hblk⟩ := hr.heap id hb e
        have hat := hblk.at_
        rw [hρ] at hat; cases hat
        have hlen : ((hb.rows.drop lo).take len).length = len := by rw [List.length_take, List.length_drop]; omega
        by_cases hl0 : len = 0
        · subst hl0
          exact nil _ _ hv hm (by simp)
        · have he : hb.esz = esz := by
            cases hrw : (hb.rows.drop lo).take len with
            | nil => rw [hrw] at hlen; simp at hlen; omega
            | cons y r =>
              rw [hrw] at hh
              simp only [headOk, beq_iff_eq] at hh
              have hR := RowsR_seg hblk.rows lo len
              rw [hrw] at hR
              simp only [RowsR] at hR
              obtain ⟨⟨vs, q1, q2, _⟩, _⟩ := hR
              rw [← q1, RowR_len q2, hh]
          have had' := had (by omega)
          simp only [srcOk, e, beq_iff_eq] at hs
          refine put b (o1 + lo * hb.esz) c _ (by rw [hlen, hv, had']) (by rw [hlen]; exact hc) hm rfl ?_ ?_
          · rw [← he]; exact RowsR_seg hblk.rows lo len
          · intro hp; rw [← he]; exact RowsC_seg (hblk.pure (by rw [hs]; exact hp)) lo len
      · cases hy
    · cases hy
  · cases hy

theorem At.addr {b o : Nat} {vs : List Value} (h : At w b o vs) : ∀ j v, vs[j]? = some v → w.cell? ((⟨b, o, none⟩ : Addr).add j) = some v := fun j v hj => by
  rw [addr_add]; exact h j v hj

theorem run_app_none {t ty e : TypeId} {i : TypeInfo} (hu : P.underlying t = some (.slice e)) (hi : P.info? e = some i) {base ad : Option Addr} {sLen sCap c : Nat} (hle : sLen ≤ sCap) :
    (Builtin.append_ #[t, t] ty #[.slice base sLen sCap, .slice ad 0 c]).run P w = .ok (.slice base sLen sCap) w := by
  cases base <;> cases ad <;> simp [Builtin.append_, run_underlying hu, sizeOf, typeInfo, hi, Builtin.lenOf, hle, Builtin.firstCells, loadCells, loadCellsFrom, storeCells]

theorem run_app_room {t ty e : TypeId} {i : TypeInfo} (hu : P.underlying t = some (.slice e)) (hi : P.info? e = some i) {b o sLen sCap b2 o2 n c : Nat} {news : List Value} {cur : Array Value} {T : TypeId} (hc : w.heap[b]? = some (.cells cur T (0, 0)))
    (hl : news.length = n * i.size) (hat : At w b2 o2 news) (h1 : ∀ u ∈ news, u.oneCell' = true) (hle : sLen + n ≤ sCap) (hfit : o + sLen * i.size + news.length ≤ cur.size) :
    (Builtin.append_ #[t, t] ty #[.slice (some ⟨b, o, none⟩) sLen sCap, .slice (some ⟨b2, o2, none⟩) n c]).run P w = .ok (.slice (some ⟨b, o, none⟩) (sLen + n) sCap) (w.setRow b (splice cur.toList (o + sLen * i.size) news).toArray) := by
  have hf := run_firstCells_some (P := P) w i.size n ⟨b2, o2, none⟩ n c news hl hat.addr
  have hst := run_storeCells_at P b (o + sLen * i.size) T news 0 cur w hc (by simpa using hfit) h1
  simp only [Nat.add_zero, List.append_assoc] at hst
  simp [Builtin.append_, run_underlying hu, sizeOf, typeInfo, hi, Builtin.lenOf, hle, hf, addr_add, hst, splice]

/-- A new block behind an append. -/
theorem app_fresh (hr : Rel E nt g F H tmps w) {t ty e : TypeId} {sz bytes : Nat} {pu pu' : Bool} {z : PV} {olds ys : List PV} {base : Option Addr} {sLen sCap b2 o2 c : Nat} {oc news : List Value} {q : PV × Hp}
    (hu : P.underlying t = some (.slice e)) (hs : sizeB P e = some sz) (hby : bytesB P e = some bytes) (hz : zeroRow P e = some (pu', z)) (hq : appFresh H pu sz bytes (olds ++ ys) = some q) (hol : olds.length = sLen)
    (hlo : Lie g H w pu sz olds oc) (hlo2 : oc.length = sLen * sz) (hln : Lie g H w pu sz ys news) (hln2 : news.length = ys.length * sz) (hatn : At w b2 o2 news) (hk : ys ≠ []) (hgt : sCap < sLen + ys.length)
    (hbase : (base = none ∧ sLen = 0 ∧ sCap = 0) ∨ ∃ ba, base = some ba ∧ ∀ j v, oc[j]? = some v → w.cell? (ba.add j) = some v) :
    ∃ v w' g', (Builtin.append_ #[t, t] ty #[.slice base sLen sCap, .slice (some ⟨b2, o2, none⟩) ys.length c]).run P w = .ok v w' ∧ Nx g g' H q.2 w w' ∧ Rel E nt g' F q.2 tmps w' ∧ VR g' q.2 w' q.1 v := by
  obtain ⟨_, hpos, i0, hi0, hi0s⟩ := sizeB_run (P := P) (w := w) hs
  have hbytes : i0.bytes = bytes := by unfold bytesB at hby; rw [hi0] at hby; cases hby; rfl
  obtain ⟨i1, v0, hi1, hv0, _, _, _⟩ := zeroRow_run (P := P) (g := g) (H := H) (w := w) hz
  rw [hi0] at hi1; cases hi1
  unfold appFresh at hq
  split at hq
  · rename_i hroom
    cases hq
    have hrows : (olds ++ ys).length = sLen + ys.length := by rw [List.length_append, hol]
    rw [hrows] at hroom
    have hr45 : (sLen + ys.length + 64) * (bytes + 1) ≤ 35184372088832 := hroom
    have hneed : sLen + ys.length ≤ 35184372088832 := by
      have : sLen + ys.length + 64 ≤ (sLen + ys.length + 64) * (bytes + 1) := Nat.le_mul_of_pos_right _ (by omega)
      omega
    have hnb : (sLen + ys.length) * bytes ≤ 35184372088832 := Nat.le_trans (Nat.mul_le_mul (by omega) (by omega)) hr45
    have hkp : 0 < ys.length := List.length_pos_iff.2 hk
    have hsz0 : news.length = ys.length * i0.size := by rw [hln2, hi0s]
    let nc := grownCap w (sLen + ys.length) sCap e
    have hge : sLen + ys.length ≤ nc := grownCap_ge w _ _ _
    have hcm : nc ≤ maxLen := grownCap_le_maxLen w _ _ _ (by unfold maxLen; omega)
    have hrun : (Builtin.append_ #[t, t] ty #[.slice base sLen sCap, .slice (some ⟨b2, o2, none⟩) ys.length c]).run P w = .ok (.slice (some ⟨w.heap.size, 0, none⟩) (sLen + ys.length) nc) (w.drew.alloc (.cells (oc ++ news ++ (Builtin.zeroCells v0.cells (nc - (sLen + ys.length))).toList).toArray e)) := by
      rcases hbase with ⟨rfl, rfl, rfl⟩ | ⟨ba, rfl, holds⟩
      · have hoc : oc = [] := List.eq_nil_of_length_eq_zero (by simpa using hlo2)
        subst hoc
        have := run_append_nil (P := P) w t ty e i0 v0 hu hi0 hv0 ⟨b2, o2, none⟩ ys.length c news hsz0 hatn.addr hkp (by omega) (by rw [hbytes]; simp only [Nat.zero_add] at hnb; omega)
        simp only [Nat.zero_add] at this ⊢
        rw [this]
        simp only [nc, Nat.zero_add, List.nil_append]
        congr 2
        simp
      · have := run_append_grow (P := P) w t ty e i0 v0 hu hi0 hv0 ba sLen sCap oc (by rw [hlo2, hi0s]) holds ⟨b2, o2, none⟩ ys.length c news hsz0 hatn.addr hgt (by omega) (growslice_fits (by omega) (by rw [hbytes]; omega))
        rw [this]
        simp only [nc]
        congr 2
        simp
    obtain ⟨r1, n1⟩ : Rel E nt g F H tmps w.drew ∧ Nx g g H H w w.drew := ⟨hr.drew, Nx.drew g H w⟩
    have hl := (hlo.append (rest := (Builtin.zeroCells v0.cells (nc - (sLen + ys.length))).toList) (by rw [hlo2, hol]) hln).on n1.on
    have hlen1 : oc.length + news.length = (sLen + ys.length) * sz := by rw [hlo2, hln2, Nat.add_mul]
    have hsegl : ∀ i x, (olds ++ ys)[i]? = some x → (seg (oc ++ news ++ (Builtin.zeroCells v0.cells (nc - (sLen + ys.length))).toList) (i * sz) sz).length = sz := by
      intro i x hx
      have hi := llt hx
      rw [hrows] at hi
      apply seg_len
      have : (i + 1) * sz ≤ (sLen + ys.length) * sz := Nat.mul_le_mul_right _ hi
      rw [Nat.add_mul, Nat.one_mul] at this
      simp only [List.length_append]; omega
    obtain ⟨g2, r2, n2, hρ⟩ := r1.newBlk (hb := ⟨false, pu, sz, olds ++ ys⟩) (cs := (oc ++ news ++ (Builtin.zeroCells v0.cells (nc - (sLen + ys.length))).toList).toArray) (T := e) hpos rfl (by simpa using hl.1)
      (fun i x hx => ⟨_, hsegl i x hx, (hl.2 i x hx).1, by rw [hsegl i x hx]; rfl⟩)
      (fun hp i x hx => ⟨_, hsegl i x hx, (hl.2 i x hx).2 hp, by rw [hsegl i x hx]; rfl⟩)
    refine ⟨_, _, g2, hrun, n1.trans n2, r2, ?_⟩
    simp only [VR]
    have hzc : v0.cells.size = sz := by
      have := zeroRow_size hz hs (w := w) (v := v0) (by simp [zeroValue, typeInfo, hi0, hv0])
      exact this
    refine ⟨⟨false, pu, sz, olds ++ ys⟩, _, nc, by simp, by simp, by rw [hrows], by rw [hrows]; exact hge, hcm, (fun c0 e0 => by cases e0), fun _ => ?_⟩
    refine ⟨w.heap.size, 0, hρ, by omega, fun _ => by simp, by simp only [capFits, hrows]; omega, _, e, alloc_new w.drew _, ?_⟩
    simp only [Nat.zero_add, List.size_toArray, List.length_append, Array.length_toList, Builtin.zeroCells, Array.size_map, Array.size_range, hzc]
    have : nc * sz = (sLen + ys.length) * sz + (nc - (sLen + ys.length)) * sz := by rw [← Nat.add_mul]; congr 1; omega
    omega
  · cases hq

/-- Rows that are written within a block. -/
theorem app_in (hr : Rel E nt g F H tmps w) {t ty e : TypeId} {sz : Nat} {id b o lo len _ext sCap b2 o2 c : Nat} {cap : Option Nat} {hb : HB} {rows' ys : List PV} {news : List Value} {cur : Array Value} {T : TypeId}
    (hu : P.underlying t = some (.slice e)) (hs : sizeB P e = some sz) (hid : H[id]? = some hb) (hf : hb.fz = false) (hρ : g.ρ id = some (b, o)) (hcu : w.heap[b]? = some (.cells cur T (0, 0))) (hesz : hb.esz = sz)
    (hln : Lie g H w hb.pu sz ys news) (hln2 : news.length = ys.length * sz) (hatn : At w b2 o2 news) (hle : len + ys.length ≤ sCap) (hfit : o + (lo + len + ys.length) * sz ≤ cur.size) (hlo : lo + len ≤ hb.rows.length)
    (hrows : rows' = hb.rows.take (lo + len) ++ (ys ++ hb.rows.drop (lo + len + ys.length))) (hmax : sCap ≤ maxLen) (hcc : ∀ c0, cap = some c0 → sCap = c0)
    (hcap : capFits lo sCap rows'.length cap) (hroom : o + (lo + sCap) * sz ≤ cur.size) (hbl : o + hb.rows.length * sz ≤ cur.size) :
    ∃ v w', (Builtin.append_ #[t, t] ty #[.slice (some ⟨b, o + lo * sz, none⟩) len sCap, .slice (some ⟨b2, o2, none⟩) ys.length c]).run P w = .ok v w' ∧ Nx g g H (H.set id { hb with rows := rows' }) w w' ∧
      Rel E nt g F (H.set id { hb with rows := rows' }) tmps w' ∧ VR g (H.set id { hb with rows := rows' }) w' (.own id lo (len + ys.length) rows'.length cap) v := by
  obtain ⟨_, hpos, i0, hi0, hi0s⟩ := sizeB_run (P := P) (w := w) hs
  have hmulfit : (lo + len + ys.length) * sz = (lo + len) * sz + ys.length * sz := Nat.add_mul ..
  have hoff : o + lo * sz + len * sz = o + (lo + len) * sz := by rw [Nat.add_mul]; omega
  have hspl : o + (lo + len) * sz + news.length ≤ cur.toList.length := by simp; omega
  have hrun := run_app_room (P := P) (t := t) (ty := ty) hu hi0 (b := b) (o := o + lo * sz) (sLen := len) (sCap := sCap) (c := c) hcu (by rw [hln2, hi0s]) hatn (Lie.one hpos hln hln2) hle (by rw [hi0s, hoff]; simpa using hspl)
  rw [hi0s, hoff] at hrun
  have hrl : rows'.length = max hb.rows.length (lo + len + ys.length) := by
    rw [hrows]; simp only [List.length_append, List.length_take, List.length_drop]; omega
  obtain ⟨b', o', hblk⟩ := hr.heap id hb hid
  have hat := hblk.at_
  rw [hρ] at hat; cases hat
  have hsegs : ∀ j y, rows'[j]? = some y → ∃ us, us.length = hb.esz ∧ RowR g H w y us ∧ (hb.pu = true → RC g.I w y us) ∧ seg (splice cur.toList (o + (lo + len) * sz) news) (o + j * hb.esz) hb.esz = us := by
    intro j y hj
    rw [hesz]
    rw [hrows, List.getElem?_append] at hj
    have old : ∀ j y, hb.rows[j]? = some y → (j < lo + len ∨ lo + len + ys.length ≤ j) → ∃ us, us.length = sz ∧ RowR g H w y us ∧ (hb.pu = true → RC g.I w y us) ∧ seg (splice cur.toList (o + (lo + len) * sz) news) (o + j * sz) sz = us := by
      intro j y hj hd
      obtain ⟨us, hu1, hu2, hu3⟩ := RowsR_get hb.rows hb.esz b o j y hblk.rows hj
      rw [hesz] at hu1 hu3
      refine ⟨us, hu1, hu2, fun hp => ?_, ?_⟩
      · obtain ⟨us2, hv2, hrc2, hat2⟩ := RowsC_get hb.rows hb.esz b o j y (hblk.pure hp) hj
        rw [hesz] at hv2 hat2
        have : us2 = us := by
          have e5 := At.to_cells hcu hat2
          have e6 := At.to_cells hcu hu3
          rw [hv2] at e5; rw [hu1] at e6
          rw [← e5, ← e6]
        subst this; exact hrc2
      · have hd' : o + j * sz + sz ≤ o + (lo + len) * sz ∨ o + (lo + len) * sz + news.length ≤ o + j * sz := by
          rcases hd with h1 | h1
          · left
            have : (j + 1) * sz ≤ (lo + len) * sz := Nat.mul_le_mul_right _ h1
            rw [Nat.add_mul, Nat.one_mul] at this; omega
          · right
            have : (lo + len + ys.length) * sz ≤ j * sz := Nat.mul_le_mul_right _ h1
            omega
        rw [seg_splice_other hspl hd']
        have e6 := At.to_cells hcu hu3
        rw [hu1] at e6; exact e6
    split at hj
    · rename_i hlt'
      rw [List.getElem?_take] at hj
      split at hj
      · exact old j y hj (.inl (by assumption))
      · cases hj
    · rename_i hge
      have htl : (hb.rows.take (lo + len)).length = lo + len := by rw [List.length_take]; omega
      rw [htl] at hj hge
      rw [List.getElem?_append] at hj
      split at hj
      · rename_i hlt2
        obtain ⟨h1, h2⟩ := hln.2 _ y hj
        have hmul : (j - (lo + len)) * sz + sz ≤ ys.length * sz := by
          have : (j - (lo + len) + 1) * sz ≤ ys.length * sz := Nat.mul_le_mul_right _ hlt2
          rwa [Nat.add_mul, Nat.one_mul] at this
        have hjm : j * sz = (lo + len) * sz + (j - (lo + len)) * sz := by rw [← Nat.add_mul]; congr 1; omega
        refine ⟨seg news ((j - (lo + len)) * sz) sz, seg_len (by omega), h1, h2, ?_⟩
        apply List.ext_getElem?
        intro k
        rw [seg_get, seg_get]
        by_cases hk : k < sz
        · rw [if_pos hk, if_pos hk, splice_get hspl, if_neg (by omega), if_pos (by omega)]
          congr 1; omega
        · rw [if_neg hk, if_neg hk]
      · rename_i hge2
        rw [List.getElem?_drop] at hj
        have e : lo + len + ys.length + (j - (lo + len) - ys.length) = j := by omega
        rw [e] at hj
        exact old j y hj (.inr (by omega))
  have hfit' : o + rows'.length * hb.esz ≤ cur.size := by
    rw [hesz, hrl]
    rcases Nat.le_total hb.rows.length (lo + len + ys.length) with h1 | h1
    · rw [Nat.max_eq_right h1]; exact hfit
    · rw [Nat.max_eq_left h1]; exact hbl
  obtain ⟨r2, n2⟩ := hr.setBlk (cs := (splice cur.toList (o + (lo + len) * sz) news).toArray) (rows' := rows') hid hf hρ hcu (by simp [splice_length hspl]) (by omega) (by simpa [splice_length hspl] using hfit')
    (fun j y hj => by
      obtain ⟨us, h1, h2, h3, h4⟩ := hsegs j y hj
      exact ⟨us, h1, h2, by rw [h1]; exact h4⟩)
    (fun hp j y hj => by
      obtain ⟨us, h1, h2, h3, h4⟩ := hsegs j y hj
      exact ⟨us, h1, h3 hp, by rw [h1]; exact h4⟩)
  refine ⟨_, _, hrun, n2, r2, ?_⟩
  simp only [VR]
  refine ⟨{ hb with rows := rows' }, _, sCap, by rw [List.getElem?_set_self (hlt hid)], Nat.le_refl _, rfl, hle, hmax, hcc, fun _ => ?_⟩
  refine ⟨b, o, hρ, by omega, fun _ => by rw [hesz], hcap, _, T, setRow_heap w b cur _ T (0, 0) hcu, ?_⟩
  simp only [List.size_toArray, splice_length hspl, Array.length_toList, hesz]
  exact hroom

/-- Rows that are written within a block: the block alone. -/
theorem write_in (hr : Rel E nt g F H tmps w) {sz : Nat} {id b o lo : Nat} {hb : HB} {rows' ys : List PV} {news : List Value} {cur : Array Value} {T : TypeId}
    (hid : H[id]? = some hb) (hf : hb.fz = false) (hρ : g.ρ id = some (b, o)) (hcu : w.heap[b]? = some (.cells cur T (0, 0))) (hesz : hb.esz = sz)
    (hln : Lie g H w hb.pu sz ys news) (hln2 : news.length = ys.length * sz) (hlo : lo + ys.length ≤ hb.rows.length)
    (hrows : rows' = hb.rows.take lo ++ (ys ++ hb.rows.drop (lo + ys.length))) (hbl : o + hb.rows.length * sz ≤ cur.size) :
    Nx g g H (H.set id { hb with rows := rows' }) w (w.setRow b (splice cur.toList (o + lo * sz) news).toArray) ∧ Rel E nt g F (H.set id { hb with rows := rows' }) tmps (w.setRow b (splice cur.toList (o + lo * sz) news).toArray) := by
  have hmulfit : (lo + ys.length) * sz = lo * sz + ys.length * sz := Nat.add_mul ..
  have hmulle : (lo + ys.length) * sz ≤ hb.rows.length * sz := Nat.mul_le_mul_right _ hlo
  have hspl : o + lo * sz + news.length ≤ cur.toList.length := by simp; omega
  have hrl : rows'.length = hb.rows.length := by
    rw [hrows]; simp only [List.length_append, List.length_take, List.length_drop]; omega
  obtain ⟨b', o', hblk⟩ := hr.heap id hb hid
  have hat := hblk.at_
  rw [hρ] at hat; cases hat
  have hsegs : ∀ j y, rows'[j]? = some y → ∃ us, us.length = hb.esz ∧ RowR g H w y us ∧ (hb.pu = true → RC g.I w y us) ∧ seg (splice cur.toList (o + lo * sz) news) (o + j * hb.esz) hb.esz = us := by
    intro j y hj
    rw [hesz]
    rw [hrows, List.getElem?_append] at hj
    have old : ∀ j y, hb.rows[j]? = some y → (j < lo ∨ lo + ys.length ≤ j) → ∃ us, us.length = sz ∧ RowR g H w y us ∧ (hb.pu = true → RC g.I w y us) ∧ seg (splice cur.toList (o + lo * sz) news) (o + j * sz) sz = us := by
      intro j y hj hd
      obtain ⟨us, hu1, hu2, hu3⟩ := RowsR_get hb.rows hb.esz b o j y hblk.rows hj
      rw [hesz] at hu1 hu3
      refine ⟨us, hu1, hu2, fun hp => ?_, ?_⟩
      · obtain ⟨us2, hv2, hrc2, hat2⟩ := RowsC_get hb.rows hb.esz b o j y (hblk.pure hp) hj
        rw [hesz] at hv2 hat2
        have : us2 = us := by
          have e5 := At.to_cells hcu hat2
          have e6 := At.to_cells hcu hu3
          rw [hv2] at e5; rw [hu1] at e6
          rw [← e5, ← e6]
        subst this; exact hrc2
      · have hd' : o + j * sz + sz ≤ o + lo * sz ∨ o + lo * sz + news.length ≤ o + j * sz := by
          rcases hd with h1 | h1
          · left
            have : (j + 1) * sz ≤ lo * sz := Nat.mul_le_mul_right _ h1
            rw [Nat.add_mul, Nat.one_mul] at this; omega
          · right
            have : (lo + ys.length) * sz ≤ j * sz := Nat.mul_le_mul_right _ h1
            omega
        rw [seg_splice_other hspl hd']
        have e6 := At.to_cells hcu hu3
        rw [hu1] at e6; exact e6
    split at hj
    · rename_i hlt'
      rw [List.getElem?_take] at hj
      split at hj
      · exact old j y hj (.inl (by assumption))
      · cases hj
    · rename_i hge
      have htl : (hb.rows.take lo).length = lo := by rw [List.length_take]; omega
      rw [htl] at hj hge
      rw [List.getElem?_append] at hj
      split at hj
      · rename_i hlt2
        obtain ⟨h1, h2⟩ := hln.2 _ y hj
        have hmul : (j - lo) * sz + sz ≤ ys.length * sz := by
          have : (j - lo + 1) * sz ≤ ys.length * sz := Nat.mul_le_mul_right _ hlt2
          rwa [Nat.add_mul, Nat.one_mul] at this
        have hjm : j * sz = lo * sz + (j - lo) * sz := by rw [← Nat.add_mul]; congr 1; omega
        refine ⟨seg news ((j - lo) * sz) sz, seg_len (by omega), h1, h2, ?_⟩
        apply List.ext_getElem?
        intro k
        rw [seg_get, seg_get]
        by_cases hk : k < sz
        · rw [if_pos hk, if_pos hk, splice_get hspl, if_neg (by omega), if_pos (by omega)]
          congr 1; omega
        · rw [if_neg hk, if_neg hk]
      · rename_i hge2
        rw [List.getElem?_drop] at hj
        have e : lo + ys.length + (j - lo - ys.length) = j := by omega
        rw [e] at hj
        exact old j y hj (.inr (by omega))
  obtain ⟨r2, n2⟩ := hr.setBlk (cs := (splice cur.toList (o + lo * sz) news).toArray) (rows' := rows') hid hf hρ hcu (by simp [splice_length hspl]) (by omega) (by rw [hrl, hesz]; simpa [splice_length hspl] using hbl)
    (fun j y hj => by
      obtain ⟨us, h1, h2, h3, h4⟩ := hsegs j y hj
      exact ⟨us, h1, h2, by rw [h1]; exact h4⟩)
    (fun hp j y hj => by
      obtain ⟨us, h1, h2, h3, h4⟩ := hsegs j y hj
      exact ⟨us, h1, h3 hp, by rw [h1]; exact h4⟩)
  exact ⟨n2, r2⟩

theorem op_app (hr : Rel E nt g F H a.tmps w) {c : Call} {s x : Operand} {s' x' : Opd} {t e : TypeId} {pu : Bool} {sz bytes : Nat} {z : PV} (ho : o.op = .call c) (hc : c.callee = .builtin .append) (hargs : c.args.toList = [s, x]) (hts : c.argTypes.toList = [t, t])
    (hu : P.underlying t = some (.slice e)) (hs : sizeB P e = some sz) (hby : bytesB P e = some bytes) (hz : zeroRow P e = some (pu, z)) (hsx : opd s = some s') (hx : opd x = some x') {call} (h : opOut E call F H (.app pu sz bytes s' x') = some out) :
    OpR E nt g F H a.tmps w out ((execOp a.eval o).run P w) := by
  obtain ⟨_, hpos, i0, hi0, hi0s⟩ := sizeB_run (P := P) (w := w) hs
  have ha : c.args = #[s, x] := by rw [← Array.toList_inj]; simpa using hargs
  have ht : c.argTypes = #[t, t] := by rw [← Array.toList_inj]; simpa using hts
  have fin : ∀ {q : PV × Hp} {v : Value} {w' : World} {g' : Gh}, (Builtin.append_ #[t, t] o.type #[a.eval s, a.eval x]).run P w = .ok v w' → Nx g g' H q.2 w w' → Rel E nt g' F q.2 a.tmps w' → VR g' q.2 w' q.1 v → OpR E nt g F H a.tmps w ⟨some (.v q.1), none, q.2⟩ ((execOp a.eval o).run P w) := by
    intro q v w' g' hrun hn hr' hv
    refine ⟨v, w', g', .inl ?_, hn, hr', hv⟩
    simp [execOp, ho, resolve, hc, ha, ht, invoke, builtin, hrun]
  simp only [opOut] at h
  split at h
  · rename_i p q hp hq
    have hvs := evV_sound hr hsx hp
    have hvx := evV_sound hr hx hq
    split at h
    · rename_i r H1 happ
      rw [outV_eq h]
      unfold appV at happ
      split at happ
      · cases happ
      · rename_i ys hys
        split at happ
        · rename_i hcnd
          obtain ⟨ad, c2, news, e1, _, _, hnl, hlie, hat⟩ := src_cells hr hpos hvx hys hcnd.1 hcnd.2
          split at happ
          · simp only [VR] at hvs
            split at happ
            · rename_i hemp
              cases happ
              have : ys = [] := by simpa using hemp
              subst this
              exact fin (q := (.nils, H)) (by rw [hvs, e1]; exact run_app_none hu hi0 (Nat.zero_le _)) (Nx.refl g H w) hr (by simp [VR])
            · rename_i hemp
              have hne : ys ≠ [] := by simpa using hemp
              obtain ⟨b2, o2, rfl, hatn⟩ := hat hne
              obtain ⟨v, w', g', hrun, hn, hr', hv⟩ := app_fresh (ty := o.type) (olds := []) (oc := []) (base := none) (sLen := 0) (sCap := 0) (c := c2) hr hu hs hby hz (by simpa using happ) rfl Lie.nil (by simp) hlie hnl hatn hne (by have := List.length_pos_iff.2 hne; omega) (.inl ⟨rfl, rfl, rfl⟩)
              exact fin (by rw [hvs, e1]; exact hrun) hn hr' hv
          · simp only [VR] at hvs
            obtain ⟨ad0, hvs⟩ := hvs
            split at happ
            · rename_i hemp
              cases happ
              have : ys = [] := by simpa using hemp
              subst this
              exact fin (q := (.emp, H)) (by rw [hvs, e1]; exact run_app_none hu hi0 (Nat.zero_le _)) (Nx.refl g H w) hr (by simp [VR])
            · rename_i hemp
              have hne : ys ≠ [] := by simpa using hemp
              obtain ⟨b2, o2, rfl, hatn⟩ := hat hne
              obtain ⟨v, w', g', hrun, hn, hr', hv⟩ := app_fresh (ty := o.type) (olds := []) (oc := []) (base := ad0) (sLen := 0) (sCap := 0) (c := c2) hr hu hs hby hz (by simpa using happ) rfl Lie.nil (by simp) hlie hnl hatn hne (by have := List.length_pos_iff.2 hne; omega)
                (by cases ad0 with
                    | none => exact .inl ⟨rfl, rfl, rfl⟩
                    | some ba => exact .inr ⟨ba, rfl, fun j v hj => by simp at hj⟩)
              exact fin (by rw [hvs, e1]; exact hrun) hn hr' hv
          · rename_i id lo len ext cap
            have hvs' := hvs
            simp only [VR] at hvs
            obtain ⟨hb, ad0, cc, e2, hle, hv0, hcl, hcm, hcc, hcond⟩ := hvs
            split at happ
            · rename_i hb' e3
              rw [e2] at e3; cases e3
              split at happ
              · rename_i hk
                obtain ⟨k1, k2, k3, k4⟩ := hk
                obtain ⟨b, o1, hρ, hle2, had, hcap, cur, T, hcu, hroom⟩ := hcond k1
                obtain ⟨b', o', hblk⟩ := hr.heap id hb e2
                have hat0 := hblk.at_
                rw [hρ] at hat0; cases hat0
                obtain ⟨cur', T', hcu', hbl⟩ := hblk.cells
                rw [hcu] at hcu'; cases hcu'
                rw [k3] at hroom hbl
                split at happ
                · rename_i hemp
                  cases happ
                  have : ys = [] := by simpa using hemp
                  subst this
                  exact fin (q := (.own id lo len ext cap, H)) (by rw [hv0, e1]; exact run_app_none hu hi0 hcl) (Nx.refl g H w) hr (by rw [← hv0]; exact hvs')
                · rename_i hemp
                  have hne : ys ≠ [] := by simpa using hemp
                  obtain ⟨b2, o2, rfl, hatn⟩ := hat hne
                  have hkp := List.length_pos_iff.2 hne
                  have olds : (hb.rows.drop lo).take len = (hb.rows.drop lo).take len ∧ ((hb.rows.drop lo).take len).length = len := ⟨rfl, by rw [List.length_take, List.length_drop]; omega⟩
                  have hR := RowsR_seg hblk.rows lo len
                  have hC := fun hp => RowsC_seg (hblk.pure hp) lo len
                  rw [k3] at hR hC
                  have grow : ∀ {q : PV × Hp}, appFresh H pu sz bytes ((hb.rows.drop lo).take len ++ ys) = some q → cc < len + ys.length → OpR E nt g F H a.tmps w ⟨some (.v q.1), none, q.2⟩ ((execOp a.eval o).run P w) := by
                    intro q hfr hgt
                    obtain ⟨oc, hoc1, hoc2⟩ := RowsR_cells sz b _ _ hR
                    rw [olds.2] at hoc1
                    have hlo := Lie_of_rows (pu := pu) hR (fun hp => hC (by rw [k2]; exact hp)) (by rw [olds.2]; exact hoc1) hoc2
                    have hbase : ∀ j v, oc[j]? = some v → w.cell? (ad0.add j) = some v := by
                      intro j v hj
                      have : cc ≠ 0 := by
                        intro h0
                        have hl0 : len = 0 := by omega
                        rw [hl0] at hoc1
                        have : oc = [] := List.eq_nil_of_length_eq_zero (by simpa using hoc1)
                        subst this; simp at hj
                      rw [had this, k3]; exact hoc2.addr j v hj
                    obtain ⟨v, w', g', hrun, hn, hr', hv⟩ := app_fresh (ty := o.type) (base := some ad0) (sCap := cc) (c := c2) hr hu hs hby hz hfr olds.2 hlo hoc1 hlie hnl hatn hne hgt (.inr ⟨ad0, rfl, hbase⟩)
                    exact fin (by rw [hv0, e1]; exact hrun) hn hr' hv
                  have inpl : ∀ {rows' : List PV}, hb.fz = false → len + ys.length ≤ cc → rows' = hb.rows.take (lo + len) ++ (ys ++ hb.rows.drop (lo + len + ys.length)) → o1 + (lo + len + ys.length) * sz ≤ cur.size → capFits lo cc rows'.length cap →
                      OpR E nt g F H a.tmps w ⟨some (.v (.own id lo (len + ys.length) rows'.length cap)), none, H.set id { hb with rows := rows' }⟩ ((execOp a.eval o).run P w) := by
                    intro rows' hfz hin hrows hfit hcap'
                    rw [← k2] at hlie
                    obtain ⟨v, w', hrun, hn, hr', hv⟩ := app_in (ty := o.type) (c := c2) (lo := lo) (len := len) (sCap := cc) (_ext := ext) (cap := cap) hr hu hs e2 hfz hρ hcu k3 hlie hnl hatn hin hfit (by omega) hrows hcm hcc hcap' hroom hbl
                    refine fin (q := (.own id lo (len + ys.length) rows'.length cap, H.set id { hb with rows := rows' })) ?_ hn hr' hv
                    rw [hv0, e1, had (by omega), k3]; exact hrun
                  cases cap with
                  | some c0 =>
                    have hc0 := hcc c0 rfl
                    subst hc0
                    simp only [appOwn] at happ
                    simp only [capFits] at hcap
                    by_cases hin : len + ys.length ≤ cc
                    · rw [if_pos hin] at happ
                      by_cases hfz : hb.fz = false
                      · rw [if_pos hfz] at happ
                        cases happ
                        have hrl : (hb.rows.take (lo + len) ++ (ys ++ hb.rows.drop (lo + len + ys.length))).length = ext := by
                          simp only [List.length_append, List.length_take, List.length_drop]; omega
                        have := inpl (rows' := hb.rows.take (lo + len) ++ (ys ++ hb.rows.drop (lo + len + ys.length))) hfz hin rfl (by
                          refine Nat.le_trans (Nat.add_le_add_left (Nat.mul_le_mul_right _ ?_) _) hbl
                          omega) (by simp only [capFits]; rw [hrl]; exact hcap)
                        rw [hrl] at this
                        exact this
                      · rw [if_neg hfz] at happ; cases happ
                    · rw [if_neg hin] at happ
                      exact grow happ (by omega)
                  | none =>
                    simp only [appOwn] at happ
                    simp only [capFits] at hcap
                    by_cases hfz : hb.fz = true
                    · rw [if_pos hfz] at happ; cases happ
                    · rw [if_neg hfz] at happ
                      have hfz : hb.fz = false := by simpa using hfz
                      by_cases hin : lo + len + ys.length ≤ ext
                      · rw [if_pos hin] at happ
                        cases happ
                        have hrl : (hb.rows.take (lo + len) ++ (ys ++ hb.rows.drop (lo + len + ys.length))).length = ext := by
                          simp only [List.length_append, List.length_take, List.length_drop]; omega
                        have := inpl (rows' := hb.rows.take (lo + len) ++ (ys ++ hb.rows.drop (lo + len + ys.length))) hfz (by omega) rfl (by
                          refine Nat.le_trans (Nat.add_le_add_left (Nat.mul_le_mul_right _ ?_) _) hbl
                          omega) (by simp only [capFits]; rw [hrl]; exact hcap)
                        rw [hrl] at this
                        exact this
                      · rw [if_neg hin] at happ
                        by_cases hg : lo = 0 ∧ len ≤ ext ∧ (len + ys.length + 64) * (bytes + 1) ≤ room
                        case neg => rw [if_neg hg] at happ; cases happ
                        case pos =>
                          rw [if_pos hg] at happ
                          obtain ⟨rfl, hle', hroomE⟩ := hg
                          cases happ
                          by_cases hin : len + ys.length ≤ cc
                          · have hrows : hb.rows.take len ++ ys = hb.rows.take (0 + len) ++ (ys ++ hb.rows.drop (0 + len + ys.length)) := by
                              rw [Nat.zero_add, List.drop_of_length_le (by omega)]; simp
                            have hrl : (hb.rows.take len ++ ys).length = len + ys.length := by rw [List.length_append, List.length_take, k1, Nat.min_eq_left hle']
                            have := inpl (rows' := hb.rows.take len ++ ys) hfz hin hrows (by
                              refine Nat.le_trans (Nat.add_le_add_left (Nat.mul_le_mul_right _ ?_) _) hroom
                              omega) (by simp only [capFits]; rw [hrl]; omega)
                            rw [hrl] at this
                            exact this
                          · -- the block moves
                            have hlt' : (hb.rows.take len).length = len := by rw [List.length_take, k1, Nat.min_eq_left hle']
                            have hR' := hR
                            have hC' := fun hp => hC hp
                            rw [List.drop_zero, Nat.zero_mul, Nat.add_zero] at hR' hC'
                            obtain ⟨oc, hoc1, hoc2⟩ := RowsR_cells sz b _ _ hR'
                            have hlo := Lie_of_rows (pu := pu) hR' (fun hp => hC' (by rw [k2]; exact hp)) hoc1 hoc2
                            rw [hlt'] at hoc1
                            have hbase : ∀ j v, oc[j]? = some v → w.cell? (ad0.add j) = some v := by
                              intro j v hj
                              have : cc ≠ 0 := by
                                intro h0
                                have hl0 : len = 0 := by omega
                                rw [hl0] at hoc1
                                have : oc = [] := List.eq_nil_of_length_eq_zero (by simpa using hoc1)
                                subst this; simp at hj
                              rw [had this, Nat.zero_mul, Nat.add_zero]; exact hoc2.addr j v hj
                            obtain ⟨i1, v0, hi1, hv0z, hz1, _, _⟩ := zeroRow_run (P := P) (g := g) (H := H) (w := w) hz
                            rw [hi0] at hi1; cases hi1
                            have hbytes : i0.bytes = bytes := by unfold bytesB at hby; rw [hi0] at hby; cases hby; rfl
                            have hr45 : (len + ys.length + 64) * (bytes + 1) ≤ 35184372088832 := hroomE
                            have hneed : len + ys.length ≤ 35184372088832 := by
                              have : len + ys.length + 64 ≤ (len + ys.length + 64) * (bytes + 1) := Nat.le_mul_of_pos_right _ (by omega)
                              omega
                            have hnb : (len + ys.length) * bytes ≤ 35184372088832 := Nat.le_trans (Nat.mul_le_mul (by omega) (by omega)) hr45
                            have hrun := run_append_grow (P := P) w t o.type e i0 v0 hu hi0 hv0z ad0 len cc oc (by rw [hoc1, hi0s]) hbase ⟨b2, o2, none⟩ ys.length c2 news (by rw [hnl, hi0s]) hatn.addr (by omega) (by omega) (growslice_fits (by omega) (by rw [hbytes]; omega))
                            have hge : len + ys.length ≤ grownCap w (len + ys.length) cc e := grownCap_ge w _ _ _
                            have hcm2 : grownCap w (len + ys.length) cc e ≤ maxLen := grownCap_le_maxLen w _ _ _ (by unfold maxLen; omega)
                            have hcells : (oc.toArray ++ news.toArray ++ Builtin.zeroCells v0.cells (grownCap w (len + ys.length) cc e - (len + ys.length))) = (oc ++ news ++ (Builtin.zeroCells v0.cells (grownCap w (len + ys.length) cc e - (len + ys.length))).toList).toArray := by simp
                            rw [hcells] at hrun
                            have hl := (hlo.append (rest := (Builtin.zeroCells v0.cells (grownCap w (len + ys.length) cc e - (len + ys.length))).toList) (by rw [hoc1, hlt']) hlie).on (On.drew g H w)
                            have hlen1 : oc.length + news.length = (len + ys.length) * sz := by rw [hoc1, hnl, Nat.add_mul]
                            have hsegl : ∀ i x, (hb.rows.take len ++ ys)[i]? = some x → (seg (oc ++ news ++ (Builtin.zeroCells v0.cells (grownCap w (len + ys.length) cc e - (len + ys.length))).toList) (i * sz) sz).length = sz := by
                              intro i x hx
                              have hi := llt hx
                              rw [List.length_append, hlt'] at hi
                              apply seg_len
                              have : (i + 1) * sz ≤ (len + ys.length) * sz := Nat.mul_le_mul_right _ hi
                              rw [Nat.add_mul, Nat.one_mul] at this
                              simp only [List.length_append]; omega
                            obtain ⟨g2, r2, n2, hρ2⟩ := hr.drew.growBlk (rows' := hb.rows.take len ++ ys) (cs := (oc ++ news ++ (Builtin.zeroCells v0.cells (grownCap w (len + ys.length) cc e - (len + ys.length))).toList).toArray) (T := e) e2 hfz (by rw [List.length_append, hlt', k1]; omega) (by rw [k3]; simpa [hlt', k1] using hl.1)
                              (fun i x hx => ⟨_, by rw [k3]; exact hsegl i x hx, (hl.2 i x hx).1, by rw [k3, hsegl i x hx]; rfl⟩)
                              (fun hp i x hx => ⟨_, by rw [k3]; exact hsegl i x hx, (hl.2 i x hx).2 (by rw [← k2]; exact hp), by rw [k3, hsegl i x hx]; rfl⟩)
                            refine fin (q := (.own id 0 (len + ys.length) (len + ys.length) none, H.set id { hb with rows := hb.rows.take len ++ ys })) (by rw [hv0, e1]; exact hrun) ((Nx.drew g H w).trans n2) r2 ?_
                            simp only [VR]
                            have hzc : v0.cells.size = sz := by rw [hz1, hi0s]
                            refine ⟨{ hb with rows := hb.rows.take len ++ ys }, _, _, by rw [List.getElem?_set_self (hlt e2)], by simp [hlt'], rfl, hge, hcm2, (fun c0 e0 => by cases e0), fun _ => ?_⟩
                            refine ⟨w.heap.size, 0, hρ2, by omega, fun _ => by simp, by simp only [capFits]; omega, _, e, alloc_new w.drew _, ?_⟩
                            simp only [Nat.zero_add, List.size_toArray, List.length_append, Array.length_toList, Builtin.zeroCells, Array.size_map, Array.size_range, hzc, k3]
                            have : grownCap w (len + ys.length) cc e * sz = (len + ys.length) * sz + (grownCap w (len + ys.length) cc e - (len + ys.length)) * sz := by rw [← Nat.add_mul]; congr 1; omega
                            omega
              · cases happ
            · cases happ
          · cases happ
        · cases happ
    · cases h
  · cases h

theorem op_appZ (hr : Rel E nt g F H a.tmps w) {c : Call} {s x : Operand} {s' x' : Opd} {t t' e : TypeId} {kn : IntKind} {pu : Bool} {sz bytes : Nat} {z : PV} (ho : o.op = .call c) (hc : c.callee = .builtin .append) (hargs : c.args.toList = [s, x]) (hts : c.argTypes.toList = [t, t'])
    (hu : P.underlying t = some (.slice e)) (hk : P.underlying t' = some (.int kn)) (hs : sizeB P e = some sz) (hby : bytesB P e = some bytes) (hz : zeroRow P e = some (pu, z)) (hsx : opd s = some s') (hx : opd x = some x') {call} (h : opOut E call F H (.appZ pu sz bytes z s' x') = some out) :
    OpR E nt g F H a.tmps w out ((execOp a.eval o).run P w) := by
  obtain ⟨_, hpos, i0, hi0, hi0s⟩ := sizeB_run (P := P) (w := w) hs
  have hbytes : i0.bytes = bytes := by unfold bytesB at hby; rw [hi0] at hby; cases hby; rfl
  obtain ⟨i1, v0, hi1, hv0, hvs, z1, z2⟩ := zeroRow_run (P := P) (g := g) (H := H) (w := w) hz
  rw [hi0] at hi1; cases hi1
  have ha : c.args = #[s, x] := by rw [← Array.toList_inj]; simpa using hargs
  have ht : c.argTypes = #[t, t'] := by rw [← Array.toList_inj]; simpa using hts
  have fin : ∀ {q : PV × Hp} {v : Value} {w' : World} {g' : Gh}, (Builtin.append_ #[t, t'] o.type #[a.eval s, a.eval x]).run P w = .ok v w' → Nx g g' H q.2 w w' → Rel E nt g' F q.2 a.tmps w' → VR g' q.2 w' q.1 v → OpR E nt g F H a.tmps w ⟨some (.v q.1), none, q.2⟩ ((execOp a.eval o).run P w) := by
    intro q v w' g' hrun hn hr' hv
    refine ⟨v, w', g', .inl ?_, hn, hr', hv⟩
    simp [execOp, ho, resolve, hc, ha, ht, invoke, builtin, hrun]
  simp only [opOut] at h
  split at h
  · rename_i p k hp hq
    have hv1 := evV_sound hr hsx hp
    obtain ⟨kq, e1, _⟩ := evInt_sound hr hx hq
    split at h
    · rename_i h0
      split at h
      · rename_i r H1 happ
        rw [outV_eq h]
        unfold appZ at happ
        split at happ
        · simp only [VR] at hv1
          obtain ⟨n, rfl⟩ : ∃ n : Nat, k = (n : Int) := ⟨k.toNat, by omega⟩
          simp only [Int.toNat_natCast] at happ
          split at happ
          · rename_i hn
            subst hn
            cases happ
            refine fin (q := (.nils, H)) (v := .slice none 0 0) ?_ (Nx.refl g H w) hr (by simp [VR])
            rw [hv1, e1]
            have hw0 : IntKind.i64.wrap (0 : Int) = 0 := by rw [IntKind.wrap_i64]; omega
            simp [Builtin.append_, run_underlying hu, run_underlying hk, sizeOf, typeInfo, hi0, asInt, asIntOf, hw0]
          · rename_i hn
            unfold appFresh at happ
            split at happ
            · rename_i hroom
              cases happ
              have hroom : (n + 64) * (bytes + 1) ≤ 35184372088832 := by rw [List.length_replicate] at hroom; exact hroom
              have hneed : n ≤ 35184372088832 := by
                have : n + 64 ≤ (n + 64) * (bytes + 1) := Nat.le_mul_of_pos_right _ (by omega)
                omega
              have hnb : n * bytes ≤ 35184372088832 := Nat.le_trans (Nat.mul_le_mul (by omega) (by omega)) hroom
              have hrun := Lib.run_append_nil_zeros (P := P) w t t' o.type e i0 v0 kq kn hu hk hi0 hv0 n (by omega) (by omega) (by omega) (by rw [hbytes]; omega)
              have hvz : v0.cells.size = sz := by rw [hvs, hi0s]
              let nc := grownCap w n 0 e
              have hge : n ≤ nc := grownCap_ge w _ _ _
              have hcm : nc ≤ maxLen := grownCap_le_maxLen w _ _ _ (by unfold maxLen; omega)
              obtain ⟨r1, n1⟩ : Rel E nt g F H a.tmps w.drew ∧ Nx g g H H w w.drew := ⟨hr.drew, Nx.drew g H w⟩
              have hlie := Lie_rep (g := g) (H := H) (w := w) (n := n) (pu := pu) hvz hpos z1 z2
              have hzc : ((Array.range (n * sz)).map (v0.cells[· % v0.cells.size]!)).toList = (Builtin.zeroCells v0.cells n).toList := by unfold Builtin.zeroCells; rw [hvz]
              rw [hzc] at hlie
              have hzl : (Builtin.zeroCells v0.cells n).toList.length = n * sz := by unfold Builtin.zeroCells; rw [hvz]; simp
              have hl := (Lie.append (rest := []) Lie.nil (by simp) hlie (r2 := List.replicate n z)).on n1.on
              simp only [List.nil_append, List.append_nil] at hl
              have hsg : ∀ i, i < n → (seg ((Builtin.zeroCells v0.cells n) ++ Builtin.zeroCells v0.cells (nc - n)).toList (i * sz) sz) = seg (Builtin.zeroCells v0.cells n).toList (i * sz) sz ∧ (seg (Builtin.zeroCells v0.cells n).toList (i * sz) sz).length = sz := by
                intro i hi
                have hle : (i + 1) * sz ≤ n * sz := Nat.mul_le_mul_right _ hi
                rw [Nat.add_mul, Nat.one_mul] at hle
                refine ⟨?_, seg_len (by rw [hzl]; omega)⟩
                simp only [seg, Array.toList_append]
                rw [List.drop_append_of_le_length (by rw [hzl]; omega), List.take_append_of_le_length (by rw [List.length_drop, hzl]; omega)]
              have hin : ∀ (i : Nat) (x : PV), (List.replicate n z)[i]? = some x → i < n := by
                intro i x hx
                have := llt hx
                simpa using this
              obtain ⟨g2, r2, n2, hρ⟩ := r1.newBlk (hb := ⟨false, pu, sz, List.replicate n z⟩) (cs := (Builtin.zeroCells v0.cells n) ++ Builtin.zeroCells v0.cells (nc - n)) (T := e) hpos rfl (by
                  simp only [Array.size_append, List.length_replicate]
                  have := hzl; rw [Array.length_toList] at this; omega)
                (fun i x hx => by
                  obtain ⟨q1, q2⟩ := hsg i (hin i x hx)
                  exact ⟨seg (Builtin.zeroCells v0.cells n).toList (i * sz) sz, q2, (hl.2 i x hx).1, by rw [q2]; exact q1⟩)
                (fun hp i x hx => by
                  obtain ⟨q1, q2⟩ := hsg i (hin i x hx)
                  exact ⟨seg (Builtin.zeroCells v0.cells n).toList (i * sz) sz, q2, (hl.2 i x hx).2 hp, by rw [q2]; exact q1⟩)
              refine fin (q := (.own H.length 0 (List.replicate n z).length (List.replicate n z).length none, H ++ [⟨false, pu, sz, List.replicate n z⟩])) (g' := g2) (by rw [hv1, e1]; exact hrun) (n1.trans n2) r2 ?_
              simp only [VR]
              refine ⟨⟨false, pu, sz, List.replicate n z⟩, _, nc, by simp, by simp, by rw [List.length_replicate], by simpa using hge, hcm, (fun c0 e0 => by cases e0), fun _ => ?_⟩
              refine ⟨w.heap.size, 0, hρ, by omega, fun _ => by simp, by simp only [capFits, List.length_replicate]; omega, _, e, alloc_new w.drew _, ?_⟩
              have h1 := hzl
              rw [Array.length_toList] at h1
              simp only [Nat.zero_add, Array.size_append, Builtin.zeroCells, Array.size_map, Array.size_range, hvz]
              have : nc * sz = n * sz + (nc - n) * sz := by rw [← Nat.add_mul]; congr 1; omega
              omega
            · cases happ
        · cases happ
      · cases h
    · cases h
  · cases h
theorem op_clr (hr : Rel E nt g F H a.tmps w) {c : Call} {x : Operand} {x' : Opd} {t e : TypeId} {pu : Bool} {sz : Nat} {z : PV} (ho : o.op = .call c) (hc : c.callee = .builtin .clear) (hargs : c.args.toList = [x]) (ht : c.argTypes[0]? = some t)
    (hu : P.underlying t = some (.slice e)) (hs : sizeB P e = some sz) (hz : zeroRow P e = some (pu, z)) (hx : opd x = some x') {call} (h : opOut E call F H (.clr pu sz z x') = some out) :
    OpR E nt g F H a.tmps w out ((execOp a.eval o).run P w) := by
  obtain ⟨_, hpos, i0, hi0, hi0s⟩ := sizeB_run (P := P) (w := w) hs
  obtain ⟨i1, v0, hi1, hv0, hvs, z1, z2⟩ := zeroRow_run (P := P) (g := g) (H := H) (w := w) hz
  rw [hi0] at hi1; cases hi1
  have ha : c.args = #[x] := by rw [← Array.toList_inj]; simpa using hargs
  have fin : ∀ {H' : Hp} {w' : World}, (Builtin.clear_ c.argTypes o.type #[a.eval x]).run P w = .ok (.tuple #[]) w' → Nx g g H H' w w' → Rel E nt g F H' a.tmps w' → OpR E nt g F H a.tmps w ⟨some (.v (.tup [])), none, H'⟩ ((execOp a.eval o).run P w) := by
    intro H' w' hrun hn hr'
    refine ⟨.tuple #[], w', g, .inl ?_, hn, hr', ?_⟩
    · simp [execOp, ho, resolve, hc, ha, invoke, builtin, hrun]
    · show VR g H' w' (.tup []) (.tuple #[])
      simp [VR, VRs]
  have none_ : ∀ {v : Value}, a.eval x = v → (∃ ad n cc, v = .slice ad n cc ∧ (ad = none ∨ n = 0)) → (Builtin.clear_ c.argTypes o.type #[a.eval x]).run P w = .ok (.tuple #[]) w := by
    rintro v hv ⟨ad, n, cc, rfl, h0⟩
    rcases h0 with rfl | rfl
    · simp [Builtin.clear_, ht, hv, run_underlying hu]
    · cases ad <;> simp [Builtin.clear_, ht, hv, run_underlying hu]
  simp only [opOut] at h
  split at h
  · rename_i p hp
    have hv1 := evV_sound hr hx hp
    split at h
    · rename_i H1 hcl
      rw [outV_eq h]
      unfold clrV at hcl
      split at hcl
      · cases hcl
        simp only [VR] at hv1
        exact fin (none_ hv1 ⟨_, _, _, rfl, .inl rfl⟩) (Nx.refl g H w) hr
      · cases hcl
        simp only [VR] at hv1
        obtain ⟨ad, hv1⟩ := hv1
        exact fin (none_ hv1 ⟨_, _, _, rfl, .inr rfl⟩) (Nx.refl g H w) hr
      · cases hcl
        obtain ⟨k, cc, e1, _, _, _⟩ := lenV_sound hv1 (n := 0) rfl
        exact fin (none_ e1 ⟨_, _, _, rfl, .inr rfl⟩) (Nx.refl g H w) hr
      · rename_i id lo len ext cap
        split at hcl
        · cases hcl
          obtain ⟨k, cc, e1, _, _, _⟩ := lenV_sound hv1 (n := 0) rfl
          exact fin (none_ e1 ⟨_, _, _, rfl, .inr rfl⟩) (Nx.refl g H w) hr
        · rename_i len
          split at hcl
          · rename_i hb e3
            split at hcl
            · rename_i hk
              obtain ⟨k1, k2, k3, k4, k5⟩ := hk
              cases hcl
              simp only [VR] at hv1
              obtain ⟨hbx, ad0, cc, e2, hle, hv0', hcl, hcm, hcc, hcond⟩ := hv1
              rw [e2] at e3; cases e3
              obtain ⟨b, o1, hρ, hle2, had, hcap, cur, T, hcu, hroom⟩ := hcond k1
              obtain ⟨b', o', hblk⟩ := hr.heap id hb e2
              have hat0 := hblk.at_
              rw [hρ] at hat0; cases hat0
              obtain ⟨cur', T', hcu', hbl⟩ := hblk.cells
              rw [hcu] at hcu'; cases hcu'
              rw [k5] at hroom hbl
              have hvz : v0.cells.size = sz := by rw [hvs, hi0s]
              have hlie := Lie_rep (g := g) (H := H) (w := w) (n := len + 1) (pu := hb.pu) hvz hpos z1 (fun h => z2 (by rw [← k4]; exact h))
              have hzc : ((Array.range ((len + 1) * sz)).map (v0.cells[· % v0.cells.size]!)).toList = (Builtin.zeroCells v0.cells (len + 1)).toList := by unfold Builtin.zeroCells; rw [hvz]
              rw [hzc] at hlie
              have hzl : (Builtin.zeroCells v0.cells (len + 1)).toList.length = (len + 1) * sz := by unfold Builtin.zeroCells; rw [hvz]; simp
              have hmul : (lo + (len + 1)) * sz = lo * sz + (len + 1) * sz := Nat.add_mul ..
              have hmul2 : (lo + (len + 1)) * sz ≤ hb.rows.length * sz := Nat.mul_le_mul_right _ (by omega)
              obtain ⟨hn, hr'⟩ := write_in (lo := lo) (ys := List.replicate (len + 1) z) (news := (Builtin.zeroCells v0.cells (len + 1)).toList) (rows' := hb.rows.take lo ++ (List.replicate (len + 1) z ++ hb.rows.drop (lo + (len + 1)))) hr e2 k3 hρ hcu k5 hlie (by rw [hzl, List.length_replicate]) (by rw [List.length_replicate]; omega) (by rw [List.length_replicate]) hbl
              have hst := run_storeCells_at P b (o1 + lo * sz) T (Builtin.zeroCells v0.cells (len + 1)).toList 0 cur w hcu (by rw [hzl]; simp; omega) (Lie.one hpos hlie (by rw [hzl, List.length_replicate]))
              simp only [Nat.add_zero, List.append_assoc] at hst
              refine fin ?_ hn hr'
              rw [hv0', had (by omega), k5]
              have hzv : (zeroValue e).run P w = .ok v0 w := by simp [zeroValue, typeInfo, hi0, hv0]
              simp [Builtin.clear_, ht, run_underlying hu, hzv, hst, splice]
            · cases hcl
          · cases hcl
      · cases hcl
    · cases h
  · cases h
end
end Go.Pf
