/- The framework, part 20: the evaluator of code is sound. Regions with a draw are left open ('RegDraw'). -/
import Derived.Test.YthlajkcfbpfmdaaFw19
import Derived.OrdersIn
import Derived.RangeFuncRecord
import Derived.RangeFuncLeaves
namespace Go.Pf
open Go Go.RowKit

/-- All functions may be called; a frame of a round, or of none. -/
abbrev Fc (ro : Option Nat) : Fence := { Fence.wide with round := ro }
theorem callsIn_fc {ro : Option Nat} {n : Nat} {P : Program} {f : FuncId} {args : Array Value} {w : World} {R : Ending → World → Prop} : CallsIn (Fc ro) n P f args w R ↔ Calls P f args w R := callsIn_wide (n := n)

/-- An object of the world that no value of the evaluator's reaches. -/
structure FreeB (g : Gh) (w : World) (b : Nat) (o : Obj) : Prop where
  at_ : w.heap[b]? = some o
  rng : ¬ RngR g b
  bet : ¬ MutF g b
  imm : ¬ g.I b
theorem FreeB.lt {g : Gh} {w : World} {b : Nat} {o : Obj} (h : FreeB g w b o) : b < w.heap.size := lt_of_some h.at_
theorem FreeB.nx {g g' : Gh} {H H' : Hp} {w w' : World} {b : Nat} {o : Obj} (h : FreeB g w b o) (n : Nx g g' H H' w w') : FreeB g' w' b o :=
  ⟨(n.kept b h.lt h.rng h.bet).trans h.at_, fun x => h.rng (n.rng b h.lt x), fun x => h.bet (n.bet b h.lt x), fun x => (n.immb b h.lt x).elim h.imm h.rng⟩

/-- A range over a function that waits for its next round. -/
structure LoopR (P : Program) (c : LCtx) (g : Gh) (H : Hp) (w : World) (l : Nat) (r : Loop) (nt : Nat) : Prop where
  free : FreeB g w l (.loop r)
  ready : r.state = .ready
  none_ : r.pending = none
  ps : r.params.toList = c.ps
  lt : ∀ p ∈ c.ps, p < nt
  code : ∃ loc fg, compCode P loc fg nt true r.assign = c.as ∧ compCode P loc fg nt true r.body = c.bd
  size : nt ≤ r.tmps.size
  frame : ∀ s fv, fget c.F s = some fv → ∃ p, fv = .v p ∧ VR g H w p (r.tmps.getD s undef)
theorem LoopR.nx {P : Program} {c : LCtx} {g g' : Gh} {H H' : Hp} {w w' : World} {l : Nat} {r : Loop} {nt : Nat} (h : LoopR P c g H w l r nt) (n : Nx g g' H H' w w') : LoopR P c g' H' w' l r nt :=
  ⟨h.free.nx n, h.ready, h.none_, h.ps, h.lt, h.code, h.size, fun s fv hs => by
    obtain ⟨p, e, hp⟩ := h.frame s fv hs
    exact ⟨p, e, VR_on n.on p _ hp⟩⟩
structure Lps (P : Program) (E : Env) (g : Gh) (H : Hp) (w : World) : Prop where
  loop : ∀ k c l, E.ctx k = some c → g.lam k = some l → ∃ r nt, LoopR P c g H w l r nt
  inj : ∀ k k' l, (E.ctx k).isSome = true → (E.ctx k').isSome = true → g.lam k = some l → g.lam k' = some l → k = k'
  top : ∀ k, E.yn ≤ k → g.lam k = none
theorem Lps.nx {P : Program} {E : Env} {g g' : Gh} {H H' : Hp} {w w' : World} (h : Lps P E g H w) (n : Nx g g' H H' w w') : Lps P E g' H' w' :=
  have e := n.on.lam
  ⟨fun k c l hc hl => by
    obtain ⟨r, nt, hr⟩ := h.loop k c l hc (by rw [← e]; exact hl)
    exact ⟨r, nt, hr.nx n⟩, fun k k' l h1 h2 h3 h4 => h.inj k k' l h1 h2 (by rw [← e]; exact h3) (by rw [← e]; exact h4), fun k hk => by rw [e]; exact h.top k hk⟩

/-- The call of a function by the evaluator is sound. -/
def InlineOk (P : Program) (E : Env) (call : Nat → List PV → Hp → Option (PV × Hp)) : Prop :=
  ∀ (f : Nat) (args : List PV) (H : Hp) (r : PV) (H' : Hp), call f args H = some (r, H') →
    ∀ (nt : Nat) (g : Gh) (F : Frm) (tmps : Array Value) (w : World) (vs : List Value), Rel E nt g F H tmps w → Lps P E g H w → VRs g H w args vs →
      CallR P f vs.toArray w fun v w' => ∃ g', Nx g g' H H' w w' ∧ Rel E nt g' F H' tmps w' ∧ VR g' H' w' r v

/-- An effect is sound, whatever loops there are. -/
def InlineOk0 (P : Program) (E : Env) (call : Nat → List PV → Hp → Option (PV × Hp)) : Prop := ∀ y, E.yn ≤ y → InlineOk P (E.ats y) call
theorem InlineOk0.ok {P : Program} {E : Env} {call : Nat → List PV → Hp → Option (PV × Hp)} (h : InlineOk0 P E call) : InlineOk P E call := h E.yn (Nat.le_refl _)
theorem Lps.none_ {P : Program} {E : Env} {g : Gh} {H : Hp} {w : World} (e : ∀ k, g.lam k = none) : Lps P E g H w :=
  ⟨fun k c l _ h => (by rw [e] at h; cases h), fun k k' l _ _ h => (by rw [e] at h; cases h), fun k _ => e k⟩
theorem Lps.env {P : Program} {E E' : Env} {g : Gh} {H : Hp} {w : World} (e : E'.ctx = E.ctx) (e2 : E'.yn = E.yn) (h : Lps P E g H w) : Lps P E' g H w :=
  ⟨fun k c l hc hl => h.loop k c l (by rw [← e]; exact hc) hl, fun k k' l h1 h2 => h.inj k k' l (by rw [← e]; exact h1) (by rw [← e]; exact h2), fun k hk => h.top k (by rw [← e2]; exact hk)⟩
theorem InlineOk.env {P : Program} {E E' : Env} {call : Nat → List PV → Hp → Option (PV × Hp)} (e : E'.glob = E.glob) (e2 : E'.ctx = E.ctx) (e3 : E'.yn = E.yn) (h : InlineOk P E call) : InlineOk P E' call := by
  intro f args H r H' hc nt g F tmps w vs hr hl hv
  obtain hh := h f args H r H' hc nt g F tmps w vs (hr.env e.symm) (hl.env e2.symm e3.symm) hv
  exact hh.mono fun v w' ⟨g', h1, h2, h3⟩ => ⟨g', h1, h2.env e, h3⟩
/-- What a round leaves: none: it ended, the next one may come; some: the loop is left by an exit. -/
def RdPost (E : Env) (nt : Nat) (g : Gh) (F : Frm) (H : Hp) (tmps : Array Value) (w : World) (o : Option Nat) (H' : Hp) (l : Nat) : Ending → World → Prop
  | .returned v, w' => (match o with
    | none => v = .bool true ∧ ∃ g', Nx g g' H H' w w' ∧ Rel E nt g' F H' tmps w'
    | some i => v = .bool false ∧ ∃ g' w1 r, Nx g g' H H' w w1 ∧ Rel E nt g' F H' tmps w1 ∧ FreeB g' w1 l (.loop r) ∧ w' = w1.putObj l (.loop { r with state := .done, pending := some (.exit i) }))
  | _, _ => False
theorem InlineOk.none {P : Program} {E : Env} : InlineOk P E fun _ _ _ => none := fun _ _ _ _ _ h => by cases h

/-- What the environment says is so. -/
structure EnvOk (P : Program) (E : Env) : Prop where
  sum : ∀ n as r, E.sum n as = some r → SumOk P E.glob n as r
  fns : ∀ n fn, E.fns n = some fn → ∃ f loc fg, P.funcs[n]? = some f ∧ compFn P loc fg f = some fn
  eff : InlineOk0 P E E.effx
  dn : ∀ n, E.dn n = true → ∀ (args : Array Value) (w : World), (callFunc n args).run P w = .ok (.enter n args) w ∧ CallsDIn (Fc none) 0 P n args .returning w fun e u w' => u = .returning ∧ w' = w ∧ ∃ v, e = .returned v
  top : ∀ k, E.yn ≤ k → E.ctx k = none
  yl : ∀ y k as H o H', E.yl y k as H = some (o, H') → E.yn ≤ y → ∀ nt g F tmps w vs l, Rel E nt g F H tmps w → Lps P (E.ats y) g H w → g.lam k = some l → VRs g H w as vs →
    ∃ (fn : FuncId) (tmps1 : Array Value) (assign body : Code), (Instr.yield l vs.toArray).run P w = .ok (.round l fn tmps1 assign body) w ∧
      ∀ ro, RoundIn (Fc ro) 0 P l fn tmps1 assign body w (RdPost E nt g F H tmps w o H' l)

section
variable {P : Program} {E : Env} {nt : Nat} {g g' : Gh} {F F' : Frm} {H H' : Hp} {a : Act} {tmps : Array Value} {w w' w'' : World} {o : Oper}

theorem compRes_cons {rv : ResultVar} {l : List ResultVar} {rs : List ARes} (h : compRes P (rv :: l) = some rs) : ∃ x r, rs = x :: r ∧ compRes P [rv] = some [x] ∧ compRes P l = some r := by
  cases rv with
  | tmp t =>
    simp only [compRes] at h ⊢
    split at h
    · rename_i r hr; cases h; exact ⟨_, _, rfl, rfl, hr⟩
    · cases h
  | cell a t =>
    simp only [compRes] at h ⊢
    split at h
    · rename_i gg i r h1 h2 h3; cases h; exact ⟨_, _, rfl, by rw [h1, h2], h3⟩
    · cases h

theorem ressOf_sound (hr : Rel E nt g F H tmps w) : ∀ (l : List ResultVar) (rs : List ARes) (ps : List PV), compRes P l = some rs → ressOf F H rs = some ps →
    ∃ vs : List Value, vs.length = l.length ∧ (∀ (i : Nat) (x : ResultVar) (y : Value), l[i]? = some x → vs[i]? = some y → (resRun tmps x).run P w = .ok y w) ∧ VRs g H w ps vs
  | [], rs, ps, hc, h => by
    simp [compRes] at hc; subst hc
    simp [ressOf] at h; subst h
    exact ⟨[], rfl, fun i x y e => by simp at e, by simp [VRs]⟩
  | rv :: l, rs, ps, hc, h => by
    obtain ⟨x, r, rfl, h1, h2⟩ := compRes_cons hc
    simp only [ressOf] at h
    split at h
    · rename_i p hp
      split at h
      · rename_i ps' hps
        cases h
        obtain ⟨v, h3, h4⟩ := resOf_sound hr h1 hp
        obtain ⟨vs, h5, h6, h7⟩ := ressOf_sound hr l r ps' h2 hps
        refine ⟨v :: vs, by simp [h5], fun i x y e1 e2 => ?_, by simp only [VRs]; exact ⟨v, vs, rfl, h4, h7⟩⟩
        cases i with
        | zero => simp at e1 e2; subst e1; subst e2; exact h3
        | succ i => simp at e1 e2; exact h6 i x y e1 e2
      · cases h
    · cases h

theorem results_sound (hr : Rel E nt g F H tmps w) {fn : Func} {rs : List ARes} {ps : List PV} (hc : compRes P fn.results.toList = some rs) (h : ressOf F H rs = some ps) :
    ∃ v, (results fn tmps).run P w = .ok v w ∧ VR g H w (packed ps) v := by
  obtain ⟨vs, h1, h2, h3⟩ := ressOf_sound hr _ rs ps hc h
  have hm : (fn.results.mapM (resRun tmps)).run P w = .ok vs.toArray w := by
    have := mapM_run (P := P) (resRun tmps) w fn.results.toList vs (by rw [h1]) (fun i x y e1 e2 => h2 i x y e1 e2)
    rw [Array.mapM_eq_mapM_toList]
    simp [this]
  have key : (results fn tmps).run P w = .ok (if h : vs.toArray.size = 1 then vs.toArray[0] else .tuple vs.toArray) w := by
    rw [results_eq]
    simp [hm]
  rw [key]
  refine ⟨_, rfl, ?_⟩
  cases ps with
  | nil => simp only [VRs] at h3; subst h3; simp [packed, VR, VRs]
  | cons p r =>
    cases r with
    | nil =>
      simp only [VRs] at h3
      obtain ⟨v, vr, rfl, h4, rfl⟩ := h3
      simpa [packed] using h4
    | cons q r =>
      have h3' := h3
      simp only [VRs] at h3
      obtain ⟨v, vr, rfl, h4, v2, vr2, rfl, h5, h6⟩ := h3
      simp only [packed, VR]
      exact ⟨v :: v2 :: vr2, by simp, h3'⟩

/-- An operation's step, and then the rest. -/
theorem StepR.wp {ro : Option Nat} (hd : ∀ c, o.op ≠ .defer c) (h : StepR E nt g H a w o.dst F' H' ((execOp a.eval o).run P w)) {next : Act → World → Prop} {Q : Exit → Act → World → Prop}
    (hn : ∀ v w' g', Nx g g' H H' w w' → Rel E nt g' F' H' (a.put o.dst v).tmps w' → next (a.put o.dst v) w') : o.wpIn (Fc ro) 0 P a w next Q := by
  obtain ⟨v, w', g', hr, h1, h2⟩ := h
  refine ⟨fun _ _ => trivial, ?_⟩
  rw [Oper.semAt_eq _ _ _ hd]
  rcases hr with hr | ⟨hr, rfl⟩
  · rw [hr]; exact hn _ _ _ h1 h2
  · rw [hr]; exact hn _ _ _ h1 h2

theorem VRs_append : ∀ (l1 l2 : List PV) (v1 v2 : List Value), VRs g H w l1 v1 → VRs g H w l2 v2 → VRs g H w (l1 ++ l2) (v1 ++ v2)
  | [], l2, v1, v2, h1, h2 => by simp only [VRs] at h1; subst h1; exact h2
  | x :: r, l2, v1, v2, h1, h2 => by
    simp only [VRs] at h1
    obtain ⟨v, vr, rfl, h3, h4⟩ := h1
    simp only [List.cons_append, VRs]
    exact ⟨v, vr ++ v2, rfl, h3, VRs_append r l2 vr v2 h4 h2⟩

theorem VPs_keep {w w' : World} {I I' : Nat → Prop} (k : Keeps I I' w w') : ∀ (l : List PV) (vs : List Value), VPs I w l vs → VPs I' w' l vs
  | [], vs, h => by simpa only [VPs] using h
  | x :: r, vs, h => by
    simp only [VPs] at h ⊢
    obtain ⟨v, vr, e, h1, h2⟩ := h
    exact ⟨v, vr, e, VP1_keep k h1, VPs_keep k r vr h2⟩

theorem VP_keep {w w' : World} {I I' : Nat → Prop} (k : Keeps I I' w w') {x : PV} {v : Value} (h : VP I w x v) : VP I' w' x v := by
  cases x with
  | tup ps =>
    simp only [VP] at h ⊢
    obtain ⟨vs, e, h⟩ := h
    exact ⟨vs, e, VPs_keep k _ _ h⟩
  | _ => simp only [VP] at h ⊢; exact VP1_keep k h

theorem purR_sound {nt : Nat} {g : Gh} {F : Frm} {H : Hp} {tmps : Array Value} {w : World} (hr : Rel E nt g F H tmps w) {r q : PV} {v : Value} (h : VR g H w r v) (hq : purR H r = some q) :
    ∃ g' H', Rel E nt g' F H' tmps w ∧ Nx g g' H H' w w ∧ VP g'.I w q v := by
  unfold purR at hq
  split at hq
  · rename_i ps
    split at hq
    · rename_i qs H1 hp
      cases hq
      simp only [VR] at h
      obtain ⟨vs, rfl, h⟩ := h
      obtain ⟨g', h1, h2, _, _, h3⟩ := purifyAll_sound _ _ _ _ _ _ hr h hp
      exact ⟨g', H1, h1, h2, by simp only [VP]; exact ⟨vs, rfl, h3⟩⟩
    · cases hq
  · split at hq
    · rename_i x hx q' H1 hp
      cases hq
      obtain ⟨g', h1, h2, _, _, _, h3⟩ := purify_sound hr h hp
      refine ⟨g', H1, h1, h2, ?_⟩
      cases q <;> first | exact h3 | (simp only [VP1] at h3)
    · cases hq

theorem deep_rows {nt : Nat} {F : Frm} {tmps : Array Value} {w : World} {esz b : Nat} : ∀ (rows ys : List PV) (o : Nat) (H H' : Hp) (g : Gh), Rel E nt g F H tmps w → RowsR g H w rows esz b o → purifyL H rows = some (ys, H') →
    ∃ g', Rel E nt g' F H' tmps w ∧ Nx g g' H H' w w ∧ g'.ρ = g.ρ ∧ ys.length = rows.length ∧ RowsC g'.I w ys esz b o
  | [], ys, o, H, H', g, hr, h, hq => by
    simp only [purifyL, Option.some.injEq, Prod.mk.injEq] at hq
    obtain ⟨rfl, rfl⟩ := hq
    exact ⟨g, hr, Nx.refl g H w, rfl, rfl, by simp only [RowsC]⟩
  | x :: r, ys, o, H, H', g, hr, h, hq => by
    simp only [purifyL] at hq
    split at hq
    · rename_i y H1 hy
      split at hq
      · rename_i ys H2 hys
        cases hq
        simp only [RowsR] at h
        obtain ⟨⟨vs, hl, h1, h2⟩, h3⟩ := h
        obtain ⟨v, rfl, h4⟩ : ∃ v, vs = [v] ∧ VR g H w x v := by
          cases x <;> first | exact h1.2 | simp [purify1] at hy
        obtain ⟨g1, r1, n1, _, p1, c1, o1⟩ := purify1_sound hr h4 hy
        obtain ⟨g2, r2, n2, p2, l2, c2⟩ := deep_rows r ys (o + esz) H1 H' g1 r1 (RowsR_on n1.on _ _ rfl _ _ h3) hys
        refine ⟨g2, r2, n1.trans n2, p2.trans p1, by simp [l2], ?_⟩
        simp only [RowsC]
        exact ⟨⟨[v], hl, RC_keep n2.on.keeps y [v] c1, h2⟩, c2⟩
      · cases hq
    · cases hq

theorem deepR_sound {nt : Nat} {g : Gh} {F : Frm} {H : Hp} {tmps : Array Value} {w : World} (hr : Rel E nt g F H tmps w) {r q : PV} {v : Value} (h : VR g H w r v) (hq : deepR H r = some q) :
    ∃ g' H', Rel E nt g' F H' tmps w ∧ Nx g g' H H' w w ∧ VP (fun b => g'.I b ∨ RngR g' b) w q v := by
  unfold deepR at hq
  split at hq
  · rename_i id lo len ext cap k n
    split at hq
    · rename_i hb e
      split at hq
      · rename_i hc
        split at hq
        · rename_i ys H1 hp
          cases hq
          simp only [VR, VRs] at h
          obtain ⟨vs, rfl, v1, vr1, rfl, ho, v2, vr2, rfl, hi, rfl⟩ := h
          obtain ⟨hb', ad, c, e', hle, hv, hc1, hm, hcc, hcond⟩ := ho
          rw [e] at e'; cases e'
          obtain ⟨b, o1, hρ, hle2, had, _, _⟩ := hcond hc.1
          obtain ⟨b', o', hk⟩ := hr.heap id hb e
          have hk1 := hk.at_
          rw [hρ] at hk1; cases hk1
          obtain ⟨g2, r2, n2, p2, l2, c2⟩ := deep_rows _ ys _ H H1 g hr (RowsR_seg hk.rows lo len) hp
          refine ⟨g2, H1, r2, n2, ?_⟩
          simp only [VP, VPs, VP1]
          refine ⟨_, rfl, v1, _, rfl, ?_, v2, _, rfl, ?_, rfl⟩
          · simp only [RC]
            have hl : ys.length = len := by rw [l2, List.length_take, List.length_drop]; omega
            refine ⟨some ad, len, c, by rw [hv], hl.symm, hc1, hm, ?_⟩
            by_cases hz : len = 0
            · left; exact List.eq_nil_of_length_eq_zero (by omega)
            · right
              have hI : g2.I b ∨ RngR g2 b := .inr ⟨id, o1, by rw [p2]; exact hρ⟩
              refine ⟨b, o1 + lo * hb.esz, hb.esz, by rw [had (by omega)], hI, hk.esz, RowsC_mk _ _ _ _ fun i x hx => ?_⟩
              obtain ⟨vs, k1, k2, k3⟩ := RowsC_get _ _ _ _ i x c2 hx
              exact ⟨vs, k1, RC_keep (fun b hb => ⟨.inl hb, rfl⟩) x vs k2, k3⟩
          · simp only [RC]; exact ⟨by rw [hi.1], hi.2⟩
        · cases hq
      · cases hq
    · cases hq
  · cases hq

theorem purN_sound {nt : Nat} {g : Gh} {F : Frm} {H : Hp} {tmps : Array Value} {w : World} (hr : Rel E nt g F H tmps w) {b : Bool} {r q : PV} {v : Value} (h : VR g H w r v) (hq : purN b H r = some q) :
    ∃ g' H', Rel E nt g' F H' tmps w ∧ Nx g g' H H' w w ∧ VP (fun b => g'.I b ∨ RngR g' b) w q v := by
  have base : ∀ {q : PV}, purR H r = some q → ∃ g' H', Rel E nt g' F H' tmps w ∧ Nx g g' H H' w w ∧ VP (fun b => g'.I b ∨ RngR g' b) w q v := fun hq => by
    obtain ⟨g', H', h1, h2, h3⟩ := purR_sound hr h hq
    exact ⟨g', H', h1, h2, VP_keep (fun b hb => ⟨.inl hb, rfl⟩) h3⟩
  unfold purN at hq
  cases b with
  | false => exact base hq
  | true =>
    simp only [cond_true] at hq
    split at hq
    · cases hq
      simp only [VR] at h
      exact ⟨g, H, hr, Nx.refl g H w, by simp only [VP, VP1]; exact h⟩
    · split at hq
      · rename_i q' hq'
        cases hq
        exact base hq'
      · exact deepR_sound hr h hq

/-- A run in a heap of its own. -/
theorem run_pure {b : Bool} {call} (hc : InlineOk P E call) {I : Nat → Prop} {w : World} {f : Nat} {args : List PV} {vs : List Value} {r q : PV} {H : Hp} (himm : ∀ b, I b → b < w.heap.size)
    (hg : ∀ n x, E.glob n = some x → I n ∧ ∃ vs, 0 < vs.length ∧ RC I w x vs ∧ At w n 0 vs) (hv : VPs I w args vs) (hin : call f args [] = some (r, H)) (h : purN b H r = some q) :
    CallR P f vs.toArray w fun v w' => Bel w.heap.size w w' ∧ VP (fun b => I b ∨ (w.heap.size ≤ b ∧ b < w'.heap.size)) w' q v := by
  let g0 : Gh := ⟨fun _ => none, fun _ => none, I, fun _ => none⟩
  have hr : Rel E 0 g0 [] [] #[] w := by
    refine ⟨Nat.zero_le _, fun s fv e => by simp [fget] at e, fun id hb e => by simp at e, fun id id' hb b o b' o' e => by simp at e, fun id b o e => by simp [g0] at e, fun s s' b e => by simp [g0] at e, fun s b id o e => by simp [g0] at e, fun s b e => by simp [g0] at e, himm, hg⟩
  refine (hc f args [] r H hin 0 g0 [] #[] w vs hr (Lps.none_ fun _ => rfl) (VRs_of_VPs (g := g0) _ _ hv)).mono ?_
  rintro v w' ⟨g', n1, r1, hvr⟩
  obtain ⟨g2, H2, r2, n2, hvp⟩ := purN_sound r1 hvr h
  have n3 := n1.trans n2
  have noR : ∀ b, ¬ RngR g0 b := fun b ⟨id, o, e⟩ => by simp [g0] at e
  have noM : ∀ b, ¬ MutF g0 b := fun b ⟨s, e⟩ => by simp [g0] at e
  refine ⟨⟨⟨n3.os, n3.tape, n3.output, n3.size, fun k hk => n3.kept k hk (noR k) (noM k)⟩, n3.drawn⟩, VP_keep (fun b hb => ⟨?_, rfl⟩) hvp⟩
  rcases Nat.lt_or_ge b w.heap.size with h1 | h1
  · rcases hb with hb | hb
    · rcases n3.immb b h1 hb with h2 | h2
      · exact .inl h2
      · exact absurd h2 (noR b)
    · exact absurd (n3.rng b h1 hb) (noR b)
  · exact .inr ⟨h1, hb.elim (r2.imm b) r2.brng⟩

theorem iceH_get : ∀ (H : Hp) (id : Nat), (iceH H)[id]? = (H[id]?).map iceB
  | [], id => by simp [iceH]
  | b :: r, 0 => rfl
  | b :: r, id + 1 => by simp only [iceH, List.getElem?_cons_succ]; exact iceH_get r id
theorem iceH_len : ∀ (H : Hp), (iceH H).length = H.length
  | [] => rfl
  | b :: r => by simp only [iceH, List.length_cons, iceH_len r]
/-- What all ghosts of a frozen heap know. -/
structure IceG (g g1 : Gh) : Prop where
  rng : ∀ b, RngR g1 b → g1.I b
  bet : ∀ b, ¬ MutF g1 b
/-- The heap, frozen for the time of a call. -/
theorem Rel.ice (hr : Rel E nt g F H tmps w) {args : List PV} {vs : List Value} (hv : VRs g H w args vs) : ∃ g1, Rel E nt g1 [] (iceH H) tmps w ∧ VRs g1 (iceH H) w args vs ∧ IceG g g1 := by
  let g1 : Gh := { g with β := fun _ => none, I := fun b => g.I b ∨ RngR g b }
  have hon : On g g1 H (iceH H) w w := by
    refine ⟨fun b h => ⟨.inl h, rfl⟩, fun id hb e => ⟨iceB hb, by rw [iceH_get, e]; rfl, rfl, rfl, .inr ⟨rfl, rfl⟩⟩, fun b cur T e => ⟨cur, e, rfl⟩, rfl⟩
  refine ⟨g1, ?_, VRs_on hon _ _ hv, ⟨fun b h => .inr h, fun b ⟨s, e⟩ => by simp [g1] at e⟩⟩
  refine { size := hr.size, frame := fun s fv e => by simp [fget] at e, heap := fun id hb e => ?_, dist := fun id id' hb b o b' o' e hf => ?_, rsome := fun id b o e => by rw [iceH_len]; exact hr.rsome id b o e, bdist := fun s s' b e => by simp [g1] at e, brho := fun s b id o e => by simp [g1] at e, bimm := fun s b e => by simp [g1] at e, imm := fun b h => ?_, glob := fun n x hx => ?_ }
  · rw [iceH_get, Option.map_eq_some_iff] at e
    obtain ⟨hb0, e0, rfl⟩ := e
    obtain ⟨b, o, hk⟩ := hr.heap id hb0 e0
    refine ⟨b, o, hk.at_, hk.esz, hk.cells, RowsR_on hon _ _ rfl _ _ hk.rows, fun hp => ?_, fun _ => .inr ⟨id, o, hk.at_⟩, fun h => by cases h⟩
    refine RowsC_mk _ _ _ _ fun i x hx' => ?_
    obtain ⟨vs, h1, h2, h3⟩ := RowsC_get _ _ _ _ i x (hk.pure hp) hx'
    exact ⟨vs, h1, RC_keep hon.keeps x vs h2, h3⟩
  · rw [iceH_get, Option.map_eq_some_iff] at e
    obtain ⟨hb0, e0, rfl⟩ := e
    cases hf
  · rcases h with h | h
    · exact hr.imm b h
    · exact hr.brng h
  · obtain ⟨h1, vs, h2, h3, h4⟩ := hr.glob n x hx
    exact ⟨.inl h1, vs, h2, RC_keep hon.keeps x vs h3, h4⟩
theorem bel_ice {g1 g2 : Gh} {H1 H2 : Hp} (e1 : IceG g g1) (n2 : Nx g1 g2 H1 H2 w w') : Bel w.heap.size w w' := by
  refine ⟨⟨n2.os, n2.tape, n2.output, n2.size, fun k hk => ?_⟩, n2.drawn⟩
  by_cases h : RngR g1 k
  · exact (n2.on.keeps k (e1.rng k h)).2
  · exact n2.kept k hk h (e1.bet k)

theorem purP_sound {Hi : Hp} {g1 : Gh} (hr : Rel E nt g1 F Hi tmps w) (hi : ∀ b, RngR g1 b → g1.I b) {x q : PV} {v : Value} (h : VR g1 Hi w x v) (hq : purP Hi x = some q) : VP1 g1.I w q v := by
  have back : ∀ {g' : Gh} {H' : Hp}, Rel E nt g' F H' tmps w → Nx g1 g' Hi H' w w → Keeps g'.I g1.I w w := fun r n b hb => ⟨(n.immb b (r.imm b hb) hb).elim id (hi b), rfl⟩
  have base : ∀ {q : PV}, (match purify Hi x with | some (q, _) => some q | none => none) = some q → VP1 g1.I w q v := fun hq => by
    split at hq
    · rename_i q' H' hp
      cases hq
      obtain ⟨g', r', n', _, _, _, h3⟩ := purify_sound hr h hp
      exact VP1_keep (back r' n') h3
    · cases hq
  unfold purP at hq
  split at hq
  · rename_i id ext i off
    split at hq
    · rename_i hb e
      split at hq
      · rename_i he
        split at hq
        · rename_i row hrow
          split at hq
          · rename_i q' H' hp
            cases hq
            simp only [VR] at h
            obtain ⟨hb', a, e', hle, hv, hcond⟩ := h
            rw [e] at e'; cases e'
            obtain ⟨b, o, hρ, hlt, ha⟩ := hcond he
            obtain ⟨b', o', hk⟩ := hr.heap id hb e
            have hk1 := hk.at_
            rw [hρ] at hk1; cases hk1
            obtain ⟨vs, k1, k2, k3⟩ := RowsR_get _ _ _ _ i row hk.rows hrow
            have hrc : RC g1.I w q' vs := by
              cases row with
              | agg cs =>
                have hvr : VR g1 Hi w (.agg cs) (.agg vs.toArray) := by simp only [VR]; exact ⟨vs, rfl, k2⟩
                obtain ⟨g', r', n', _, _, h3, _⟩ := purify_sound hr hvr hp
                exact RC_keep (back r' n') _ _ (by simpa [Value.cells] using h3)
              | _ =>
                simp only [RowR] at k2
                obtain ⟨_, v1, rfl, k2⟩ := k2
                simp only [purify] at hp
                obtain ⟨g', r', n', _, _, h3, _⟩ := purify1_sound hr k2 hp
                exact RC_keep (back r' n') _ _ h3
            simp only [VP1]
            refine ⟨b, o + i * hb.esz, hb.esz, ?_, hi b ⟨id, o, hρ⟩, hk.esz, by simp, ?_⟩
            · rw [hv, ha]; simp
            · simp only [RowsC]; exact ⟨⟨vs, k1, hrc, k3⟩, trivial⟩
          · cases hq
        · cases hq
      · cases hq
    · cases hq
  · cases hq
    simp only [VR] at h
    simp only [VP1]; exact h
  · exact base hq

theorem purPs_sound {Hi : Hp} {g1 : Gh} (hr : Rel E nt g1 F Hi tmps w) (hi : ∀ b, RngR g1 b → g1.I b) : ∀ (l ys : List PV) (vs : List Value), VRs g1 Hi w l vs → purPs Hi l = some ys → VPs g1.I w ys vs
  | [], ys, vs, h, hq => by
    simp only [purPs, Option.some.injEq] at hq
    subst hq
    simpa only [VRs, VPs] using h
  | x :: r, ys, vs, h, hq => by
    simp only [purPs] at hq
    split at hq
    · rename_i y hy
      split at hq
      · rename_i ys' hys
        cases hq
        simp only [VRs] at h
        obtain ⟨v, vr, rfl, h1, h2⟩ := h
        simp only [VPs]
        exact ⟨v, vr, rfl, purP_sound hr hi h1 hy, purPs_sound hr hi r ys' vr h2 hys⟩
      · cases hq
    · cases hq

theorem pureRes_sound (hE : EnvOk P E) {call} (hc : InlineOk P E call) (hr : Rel E nt g F H tmps w) {n : Nat} {ps : List PV} {vs : List Value} {r : PV} (hv : VPs g.I w ps vs) (h : pureRes E call n ps = some r) :
    CallR P n vs.toArray w fun v w' => Bel w.heap.size w w' ∧ VP (fun b => g.I b ∨ (w.heap.size ≤ b ∧ b < w'.heap.size)) w' r v := by
  unfold pureRes at h
  split at h
  · rename_i r' hs
    cases h
    exact hE.sum n ps _ hs g.I w vs hr.imm hr.glob hv
  · split at h
    · split at h
      · rename_i r0 H1 hcall
        exact run_pure hc hr.imm hr.glob hv hcall h
      · cases h
    · cases h

theorem callV0_sound (hE : EnvOk P E) {call} (hc : InlineOk P E call) (hr : Rel E nt g F H tmps w) (hL : Lps P E g H w) {f : PV} {fv : Value} {as : List PV} {vs : List Value} {r : PV} (h : callV0 E call f as H = some (r, H')) (hf : VR g H w f fv) (has : VRs g H w as vs) :
    (∃ (n : Nat) (first captured : List Value), fv = .func (.func n) first.toArray captured.toArray ∧
      CallR P n (first ++ vs ++ captured).toArray w fun v w' => ∃ g', Nx g g' H H' w w' ∧ Rel E nt g' F H' tmps w' ∧ VR g' H' w' r v) ∨
    (∃ l, fv = .func (.yield l) #[] #[] ∧ ∃ (fn : FuncId) (tmps1 : Array Value) (assign body : Code), (Instr.yield l vs.toArray).run P w = .ok (.round l fn tmps1 assign body) w ∧
      ∀ ro, RoundIn (Fc ro) 0 P l fn tmps1 assign body w fun e w' => match e with | .returned v => ∃ g', Nx g g' H H' w w' ∧ Rel E nt g' F H' tmps w' ∧ VR g' H' w' r v | _ => False) := by
  unfold callV0 at h
  split at h
  · rename_i n first captured
    simp only [VR] at hf
    obtain ⟨fs, cs, rfl, hfs, hcs, _⟩ := hf
    refine .inl ⟨n, fs, cs, rfl, ?_⟩
    have hall := VRs_append _ _ _ _ (VRs_append _ _ _ _ hfs has) hcs
    split at h
    · split at h
      · rename_i ps hp
        split at h
        · rename_i r0 hs
          split at h
          · rename_i hsc
            cases h
            obtain ⟨g1, r1, v1, e1⟩ := hr.ice hall
            refine (pureRes_sound hE hc r1 (purPs_sound r1 e1.rng _ _ _ v1 hp) hs).mono fun v w' ⟨hb, hv⟩ => ?_
            obtain ⟨g2, h1, h2, _⟩ := hr.grew hb
            exact ⟨g2, h2, h1, scalar_VR hsc hv⟩
          · cases h
        · cases h
      · cases h
    split at h
    · rename_i res hres
      split at hres
      · rename_i ps H1 hp
        split at hres
        · rename_i s hs
          obtain ⟨g1, r1, n1, b1, p1, v1⟩ := purifyAll_sound _ _ _ _ _ _ hr hall hp
          refine (pureRes_sound hE hc r1 v1 hs).mono fun v w' ⟨hb, hv⟩ => ?_
          split at hres
          · rename_i hsc
            cases hres; cases h
            obtain ⟨g2, h1, h2, _⟩ := hr.grew hb
            exact ⟨g2, h2, h1, scalar_VR hsc hv⟩
          · cases hres; cases h
            obtain ⟨g2, h1, h2, h3, h4, h5⟩ := r1.grew hb
            refine ⟨g2, n1.trans h2, h1, VR_of_VP ?_⟩
            rw [h5]; exact hv
        · cases hres
      · cases hres
    · split at h
      · cases h
      split at h
      · split at h
        · rename_i ps H1 hp
          obtain ⟨g1, r1, n1, b1, p1, v1⟩ := purifyAll_sound _ _ _ _ _ _ hr hall hp
          refine (hc n ps H1 r H' h nt g1 F tmps w _ r1 (hL.nx n1) (VRs_of_VPs _ _ v1)).mono fun v w' ⟨g2, h1, h2, h3⟩ => ⟨g2, n1.trans h1, h2, h3⟩
        · cases h
      · exact hc n _ H r H' h nt g F tmps w _ hr hL hall
  · rename_i k
    split at h
    · rename_i H1 hy
      cases h
      simp only [VR, VRs] at hf
      obtain ⟨fs, cs, rfl, rfl, rfl, hk⟩ := hf
      simp only [Gh.okF] at hk
      obtain ⟨l, hl⟩ := Option.isSome_iff_exists.1 hk
      obtain ⟨fn, t1, as1, bd, h1, h2⟩ := hE.yl E.yn k as H none H' hy (Nat.le_refl _) nt g F tmps w vs l hr (hL.env rfl rfl) hl has
      refine .inr ⟨l, by simp only [Gh.tr]; rw [hl]; rfl, fn, t1, as1, bd, h1, fun ro => (h2 ro).mono fun e w' he => ?_⟩
      cases e with
      | returned v => obtain ⟨rfl, g', n1, r1⟩ := he; exact ⟨g', n1, r1, by simp [VR]⟩
      | panicked _ => exact he
      | outgrown => exact he
    · cases h
  · cases h

theorem purRH_sound {nt : Nat} {g : Gh} {F : Frm} {H H' : Hp} {tmps : Array Value} {w : World} (hr : Rel E nt g F H tmps w) {r q : PV} {v : Value} (h : VR g H w r v) (hq : purRH H r = some (q, H')) :
    ∃ g', Rel E nt g' F H' tmps w ∧ Nx g g' H H' w w ∧ VP g'.I w q v := by
  unfold purRH at hq
  split at hq
  · rename_i ps
    split at hq
    · rename_i qs H1 hp
      cases hq
      simp only [VR] at h
      obtain ⟨vs, rfl, h⟩ := h
      obtain ⟨g', h1, h2, _, _, h3⟩ := purifyAll_sound _ _ _ _ _ _ hr h hp
      exact ⟨g', h1, h2, by simp only [VP]; exact ⟨vs, rfl, h3⟩⟩
    · cases hq
  · obtain ⟨g', h1, h2, _, _, _, h3⟩ := purify_sound hr h hq
    refine ⟨g', h1, h2, ?_⟩
    cases q <;> first | exact h3 | (simp only [VP1] at h3)
theorem VRs_at : ∀ (l : List PV) (vs : List Value) (j : Nat) (x : PV), VRs g H w l vs → l[j]? = some x → ∃ v, vs[j]? = some v ∧ VR g H w x v
  | [], _, j, x, _, e => by simp at e
  | y :: r, vs, j, x, h, e => by
    simp only [VRs] at h
    obtain ⟨v, vr, rfl, h1, h2⟩ := h
    cases j with
    | zero => simp at e; subst e; exact ⟨v, rfl, h1⟩
    | succ j => simp at e; simpa using VRs_at r vr j x h2 e
theorem VRs_set : ∀ (l : List PV) (vs : List Value) (j : Nat) (x : PV) (v : Value), VRs g H w l vs → VR g H w x v → VRs g H w (l.set j x) (vs.set j v)
  | [], vs, j, x, v, h, _ => by simp only [VRs] at h; subst h; simp [VRs]
  | y :: r, vs, j, x, v, h, hx => by
    simp only [VRs] at h
    obtain ⟨v0, vr, rfl, h1, h2⟩ := h
    cases j with
    | zero => simp only [List.set_cons_zero, VRs]; exact ⟨_, _, rfl, hx, h2⟩
    | succ j => simp only [List.set_cons_succ, VRs]; exact ⟨_, _, rfl, h1, VRs_set r vr j x v h2 hx⟩
theorem set_set_self {α : Type} : ∀ (l : List α) (j : Nat) (x y : α), l[j]? = some x → (l.set j y).set j x = l
  | [], j, _, _, e => by simp at e
  | z :: r, 0, x, y, e => by simp at e; subst e; rfl
  | z :: r, j + 1, x, y, e => by simp at e; simp only [List.set_cons_succ, set_set_self r j x y e]
theorem locRun_sound {call} (hc : InlineOk P E call) (hr : Rel E nt g F H tmps w) {x : LocC} {r : PV} (h : locRun call x H = some (r, H')) (hj : ∃ x0, x.all[x.j]? = some x0 ∧ locY x0 = some (x.id, x.y)) {vs : List Value} (hv : VRs g H w x.all vs) :
    CallR P x.n vs.toArray w fun v w' => ∃ g', Nx g g' H H' w w' ∧ Rel E nt g' F H' tmps w' ∧ VR g' H' w' r v := by
  unfold locRun at h
  split at h
  case h_2 => cases h
  rename_i as H1 hp
  split at h
  case h_2 => cases h
  rename_i b hb
  split at h
  case isFalse => cases h
  rename_i hb2
  split at h
  case h_2 => cases h
  rename_i q rows hq
  cases h
  unfold locRes at hq
  split at hq
  case h_2 => cases hq
  rename_i r0 H2 hcall
  split at hq
  case h_2 => cases hq
  rename_i q' H3 hpur
  split at hq
  case h_2 => cases hq
  rename_i b2 hb3
  split at hq
  case isFalse => cases hq
  rename_i hb4
  cases hq
  obtain ⟨x0, hj, hy⟩ := hj
  obtain ⟨vj, hvj, howv⟩ := VRs_at _ _ _ _ hv hj
  obtain ⟨g1, r1, n1, b1, p1, v1⟩ := purifyAll_sound _ _ _ _ _ _ hr (VRs_set _ _ x.j (.int .i64 0) (.int .i64 0) hv (by simp only [VR]; exact ⟨trivial, by unfold inK; decide⟩)) hp
  have how1 := VR_on n1.on _ _ howv
  let g0 : Gh := ⟨fun k => if k = 0 then g1.ρ x.id else none, fun _ => none, g1.I, fun _ => none⟩
  obtain ⟨bl, o, hk⟩ := r1.heap x.id b hb
  have hr0 : Rel E 0 g0 [] [b] #[] w := by
    refine ⟨Nat.zero_le _, fun s fv e => by simp [fget] at e, fun id hb' e => ?_, fun id id' hb' b' o' b'' o'' e hf hne e1 e2 => ?_, fun id b' o' e => ?_, fun s s' b' e => by simp [g0] at e, fun s b' id o' e => by simp [g0] at e, fun s b' e => by simp [g0] at e, r1.imm, r1.glob⟩
    · cases id with
      | zero =>
        simp at e; subst e
        exact ⟨bl, o, by simp [g0, hk.at_], hk.esz, hk.cells, RowsR_of_RowsC (hk.pure hb2.2), hk.pure, hk.fz, hk.live⟩
      | succ id => simp at e
    · have h1 : id = 0 := Classical.byContradiction fun hne => by simp [g0, hne] at e1
      have h2 : id' = 0 := Classical.byContradiction fun hne => by simp [g0, hne] at e2
      omega
    · have h1 : id = 0 := Classical.byContradiction fun hne => by simp [g0, hne] at e
      subst h1; simp
  have hvs0 : VRs g0 [b] w (as.set x.j x.y) vs := by
    have h1 : VRs g0 [b] w as (vs.set x.j (.int .i64 0)) := VRs_of_VPs (g := g0) _ _ v1
    have h2 : VR g0 [b] w x.y vj := by
      cases x0 <;> simp only [locY, Option.some.injEq, Prod.mk.injEq, reduceCtorEq] at hy
      case own id lo len ext cap =>
        obtain ⟨h9, h10⟩ := hy
        subst h9
        rw [← h10]
        simp only [VR, OwnR] at how1 ⊢
        obtain ⟨hb', a, c, e, h3, h4, h5, h6, h7, h8⟩ := how1
        rw [hb] at e
        cases e
        exact ⟨b, a, c, rfl, h3, h4, h5, h6, h7, fun hl => by simpa [g0] using h8 hl⟩
      case ptr id ext i off =>
        obtain ⟨h9, h10⟩ := hy
        subst h9
        rw [← h10]
        simp only [VR, PtrR] at how1 ⊢
        obtain ⟨hb', a, e, h3, h4, h5⟩ := how1
        rw [hb] at e
        cases e
        exact ⟨b, a, rfl, h3, h4, fun hl => by simpa [g0] using h5 hl⟩
    have h3 := VRs_set _ _ x.j _ _ h1 h2
    rwa [set_set_self _ _ _ _ hvj] at h3
  refine (hc x.n _ [b] r0 H2 hcall 0 g0 [] #[] w vs hr0 (Lps.none_ fun _ => rfl) hvs0).mono ?_
  rintro v w' ⟨g2, n2, r2, hvr⟩
  obtain ⟨g3, r3, n3, hvp⟩ := purRH_sound r2 hvr hpur
  have n4 := n2.trans n3
  have hR0 : ∀ k, RngR g0 k → k = bl := fun k ⟨id, o', e⟩ => by
    have h1 : id = 0 := Classical.byContradiction fun hne => by simp [g0, hne] at e
    subst h1
    simp [g0, hk.at_] at e
    exact e.1.symm
  have noF : ∀ k, ¬ MutF g0 k := fun k ⟨s, e⟩ => by simp [g0] at e
  have hblR : RngR g1 bl := ⟨x.id, o, hk.at_⟩
  have hlive := hk.live hb2.1
  obtain ⟨bl3, o3, hk3⟩ := r3.heap 0 b2 hb3
  obtain ⟨b2', e2', z2, p2, l2⟩ := n4.on.hext 0 b rfl
  rw [hb3] at e2'
  cases e2'
  have hρ3 : g3.ρ 0 = some (bl, o) := by
    rcases l2 with l2 | ⟨_, l2⟩
    · omega
    · rw [l2]; simp [g0, hk.at_]
  have hat : bl3 = bl ∧ o3 = o := by
    have := hk3.at_
    rw [hρ3] at this
    simp at this
    exact ⟨this.1.symm, this.2.symm⟩
  obtain ⟨rfl, rfl⟩ := hat
  have kept : ∀ k, k < w.heap.size → k ≠ bl3 → w'.heap[k]? = w.heap[k]? := fun k hk1 hne => n4.kept k hk1 (fun h => hne (hR0 k h)) (noF k)
  have immk : ∀ k, k < w.heap.size → g3.I k → g1.I k ∨ k = bl3 := fun k hk1 hi => (n4.immb k hk1 hi).elim .inl fun h => .inr (hR0 k h)
  let g4 : Gh := { g1 with I := g3.I }
  have hon : On g1 g4 H1 (H1.set x.id { b with rows := b2.rows }) w w' := by
    refine ⟨n4.on.keeps, fun id hb' e => ?_, n4.on.shape, rfl⟩
    by_cases hid : id = x.id
    · subst hid
      rw [hb] at e
      cases e
      exact ⟨{ b with rows := b2.rows }, by rw [List.getElem?_set_self (List.getElem?_eq_some_iff.1 hb).1], rfl, rfl, .inr ⟨hb4.2.symm, rfl⟩⟩
    · exact ⟨hb', by rw [List.getElem?_set_ne (fun e => hid e.symm)]; exact e, rfl, rfl, .inr ⟨rfl, rfl⟩⟩
  have hnx : Nx g1 g4 H1 (H1.set x.id { b with rows := b2.rows }) w w' := by
    refine ⟨n4.os, n4.tape, n4.output, n4.drawn, n4.size, fun k h1 h2 h3 => kept k h1 fun e => h2 (e ▸ hblR), fun k _ h => h, fun k h1 h2 => (immk k h1 h2).elim .inl fun e => .inr (e ▸ hblR), fun k _ h => h, hon⟩
  have rowsK : ∀ k, w'.heap[k]? = w.heap[k]? → ∀ {l : List PV} {z o' : Nat}, RowsC g1.I w l z k o' → RowsC g3.I w' l z k o' := fun k hk1 {l z o'} hrc => RowsC_mk _ _ _ _ fun i y hy => by
    obtain ⟨us, q1, q2, q3⟩ := RowsC_get _ _ _ _ i y hrc hy
    exact ⟨us, q1, RC_keep n4.on.keeps y us q2, q3.keep hk1⟩
  have brng : ∀ k id o', g1.ρ id = some (k, o') → k < w.heap.size := fun k id o' e => r1.brng ⟨id, o', e⟩
  refine ⟨g4, n1.trans hnx, ⟨r1.size, fun s fv e => ?_, fun id hb' e => ?_, fun id1 id2 hb' k o' k' o'' e hf hne e1 e2 => ?_, fun id k o' e => by rw [List.length_set]; exact r1.rsome id k o' e, r1.bdist, r1.brho, fun s k e => ?_, r3.imm, fun m y hy => ?_⟩, ?_⟩
  · have h1 := r1.frame s fv e
    cases fv with
    | v p => simp only [FRel] at h1 ⊢; exact VR_on hon p _ h1
    | box row =>
      simp only [FRel] at h1 ⊢
      obtain ⟨k, k1, k2, k3, cur, T, k4, k5⟩ := h1
      have hks := (r1.bimm s k k1).2
      have hne : k ≠ bl3 := fun e => r1.brho s k x.id o3 k1 (e ▸ hk.at_)
      exact ⟨k, k1, k2, fun hi => (immk k hks hi).elim k3 hne, cur, T, by rw [kept k hks hne]; exact k4, RowR_on hon row _ k5⟩
    | bp s' off => exact h1
  · by_cases hid : id = x.id
    · subst hid
      rw [List.getElem?_set_self (List.getElem?_eq_some_iff.1 hb).1] at e
      cases e
      have hpu3 : RowsC g3.I w' b2.rows b.esz bl3 o3 := by rw [← z2]; exact hk3.pure (by rw [p2]; exact hb2.2)
      obtain ⟨cur, T, k1, k2⟩ := hk3.cells
      exact ⟨bl3, o3, hk.at_, hk.esz, ⟨cur, T, k1, by rw [← z2]; exact k2⟩, RowsR_of_RowsC hpu3, fun _ => hpu3, fun hf => (by rw [hb2.1] at hf; cases hf), fun _ => hk3.live hb4.1⟩
    · rw [List.getElem?_set_ne (fun e => hid e.symm)] at e
      obtain ⟨k, o', kk⟩ := r1.heap id hb' e
      have hks := brng k id o' kk.at_
      have hne : k ≠ bl3 := fun ek => r1.dist x.id id b bl3 o3 k o' hb hb2.1 (fun e => hid e.symm) hk.at_ kk.at_ ek.symm
      obtain ⟨cur, T, k1, k2⟩ := kk.cells
      exact ⟨k, o', kk.at_, kk.esz, ⟨cur, T, by rw [kept k hks hne]; exact k1, k2⟩, RowsR_on hon _ _ (kept k hks hne) _ _ kk.rows, fun hp' => rowsK k (kept k hks hne) (kk.pure hp'), fun hf => (n4.on.keeps k (kk.fz hf)).1, fun hf hi => (immk k hks hi).elim (kk.live hf) hne⟩
  · by_cases hid : id1 = x.id
    · subst hid
      exact r1.dist _ id2 b k o' k' o'' hb hb2.1 hne e1 e2
    · rw [List.getElem?_set_ne (fun e => hid e.symm)] at e
      exact r1.dist id1 id2 hb' k o' k' o'' e hf hne e1 e2
  · obtain ⟨h1, h2⟩ := r1.bimm s k e
    exact ⟨fun hi => (immk k h2 hi).elim h1 fun ek => r1.brho s k x.id o3 e (ek ▸ hk.at_), Nat.lt_of_lt_of_le h2 n4.size⟩
  · obtain ⟨h1, vs', h2, h3, h4⟩ := r1.glob m y hy
    exact ⟨(n4.on.keeps m h1).1, vs', h2, RC_keep n4.on.keeps y vs' h3, h4.keep (n4.on.keeps m h1).2⟩
  · exact VR_of_VP (g := g4) hvp
theorem callV_sound (hE : EnvOk P E) {call} (hc : InlineOk P E call) (hr : Rel E nt g F H tmps w) (hL : Lps P E g H w) {f : PV} {fv : Value} {as : List PV} {vs : List Value} {r : PV} (h : callV E call f as H = some (r, H')) (hf : VR g H w f fv) (has : VRs g H w as vs) :
    (∃ (n : Nat) (first captured : List Value), fv = .func (.func n) first.toArray captured.toArray ∧
      CallR P n (first ++ vs ++ captured).toArray w fun v w' => ∃ g', Nx g g' H H' w w' ∧ Rel E nt g' F H' tmps w' ∧ VR g' H' w' r v) ∨
    (∃ l, fv = .func (.yield l) #[] #[] ∧ ∃ (fn : FuncId) (tmps1 : Array Value) (assign body : Code), (Instr.yield l vs.toArray).run P w = .ok (.round l fn tmps1 assign body) w ∧
      ∀ ro, RoundIn (Fc ro) 0 P l fn tmps1 assign body w fun e w' => match e with | .returned v => ∃ g', Nx g g' H H' w w' ∧ Rel E nt g' F H' tmps w' ∧ VR g' H' w' r v | _ => False) := by
  unfold callV at h
  split at h
  · rename_i x hx
    unfold locOf at hx
    split at hx
    case h_2 => cases hx
    rename_i n first captured
    split at hx
    case h_2 => cases hx
    rename_i j _
    split at hx
    case h_2 => cases hx
    rename_i x0 hj
    split at hx
    case h_2 => cases hx
    rename_i id y hy
    cases hx
    simp only [VR] at hf
    obtain ⟨fs, cs, rfl, hfs, hcs, _⟩ := hf
    exact .inl ⟨n, fs, cs, rfl, locRun_sound hc hr h ⟨x0, hj, hy⟩ (VRs_append _ _ _ _ (VRs_append _ _ _ _ hfs has) hcs)⟩
  · exact callV0_sound hE hc hr hL h hf has

/-- A call's operation. -/
theorem op_call {ro : Option Nat} (hE : EnvOk P E) {call} (hc : InlineOk P E call) (hr : Rel E nt g F H a.tmps w) (hL : Lps P E g H w) {c : Call} {f : Operand} {f' : Opd} {as' : List Opd} {out : Out} (ho : o.op = .call c) (hcal : c.callee = .value f) (hf : opd f = some f') (has : opds c.args.toList = some as')
    (h : opOut E call F H (.call f' as') = some out) (hd : ∀ d, o.dst = some d → d < nt) (hp : putDst (putBx F out.bx) o.dst out.x = some F') {next : Act → World → Prop} {Q : Exit → Act → World → Prop}
    (hn : ∀ v w' g', Nx g g' H out.h w w' → Rel E nt g' F' out.h (a.put o.dst v).tmps w' → next (a.put o.dst v) w') : o.wpIn (Fc ro) 0 P a w next Q := by
  simp only [opOut] at h
  split at h
  · rename_i fv av hfv hav
    split at h
    · rename_i r H1 hcall
      rw [outV_eq h] at hp hn
      have hstep : ∀ v w' g', Nx g g' H H1 w w' → Rel E nt g' F H1 a.tmps w' → VR g' H1 w' r v → next (a.put o.dst v) w' := by
        intro v w' g' h1 h2 h3
        have := StepR.of (dst := o.dst) (a := a) (F' := F') (w := w) (g := g) (H := H) (r := .ok (.value v) w') (out := ⟨some (.v r), none, H1⟩) ⟨v, w', g', .inl rfl, h1, h2, h3⟩ hd hp (fun row e => by cases e)
        obtain ⟨v2, w2, g2, e, h4, h5⟩ := this
        rcases e with e | ⟨e, _⟩
        · cases e; exact hn _ _ _ h4 h5
        · cases e
      have hargs : (c.args.map a.eval) = (c.args.toList.map a.eval).toArray := by rw [← Array.toList_map]
      refine ⟨fun _ _ => trivial, ?_⟩
      rw [Oper.semAt_eq _ _ _ (fun c' e => by rw [ho] at e; cases e)]
      rcases callV_sound hE hc hr hL hcall (evV_sound hr hf hfv) (evs_sound hr _ _ _ has hav) with ⟨n, first, captured, hfe, hR⟩ | ⟨l, hfe, fn, t1, as1, bd, h1, h2⟩
      · have hrun : (execOp a.eval o).run P w = (callFunc n (first ++ c.args.toList.map a.eval ++ captured).toArray).run P w := by
          have e2 : (first ++ c.args.toList.map a.eval ++ captured).toArray = first.toArray ++ c.args.map a.eval ++ captured.toArray := by rw [hargs]; simp
          rw [e2]
          simp [execOp, ho, resolve, hcal, hfe, Deferred.ofValue, invoke]
        unfold CallR at hR
        rw [hrun]
        split at hR
        · rename_i v w' e
          rw [e]
          obtain ⟨g', h1, h2, h3⟩ := hR
          exact hstep v w' g' h1 h2 h3
        · rename_i f2 a2 w' e
          rw [e]
          simp only [Oper.uponIn]
          refine ⟨fun h => by simp [Fence.wide] at h, callsIn_fc.2 (Calls.mono hR fun e w'' he => ?_)⟩
          cases e with
          | returned v => obtain ⟨g', h1, h2, h3⟩ := he; exact hstep v w'' g' h1 h2 h3
          | panicked _ => exact he.elim
          | outgrown => exact he.elim
        · exact hR.elim
      · have hrun : (execOp a.eval o).run P w = .ok (.round l fn t1 as1 bd) w := by
          rw [← h1]
          simp [execOp, ho, resolve, hcal, hfe, Deferred.ofValue, invoke]
          rw [hargs]
        rw [hrun]
        simp only [Oper.uponIn]
        refine ⟨fun h => by simp [Fence.wide] at h, (h2 ro).mono fun e w'' he => ?_⟩
        cases e with
        | returned v => obtain ⟨g', h1, h2, h3⟩ := he; exact hstep v w'' g' h1 h2 h3
        | panicked _ => exact he.elim
        | outgrown => exact he.elim
    · cases h
  · cases h

theorem isCall_inv {loc : List Nat} (h : isCall (compOp P loc o) = true) : ∃ c f f' as', o.op = .call c ∧ c.callee = .value f ∧ opd f = some f' ∧ opds c.args.toList = some as' ∧ compOp P loc o = .call f' as' := by
  unfold compOp at h
  cases ho : o.op <;> rw [ho] at h <;> simp only [] at h
  case call c =>
    cases hc : c.callee with
    | value f =>
      rw [hc] at h
      simp only [] at h
      split at h
      · rename_i f' as' h1 h2
        refine ⟨c, f, f', as', rfl, hc, h1, h2, ?_⟩
        unfold compOp
        rw [ho]
        simp only [hc, h1, h2]
      · cases h
    | builtin b =>
      rw [hc] at h
      simp only [compBuiltin] at h
      repeat' split at h
      all_goals cases h
    | invoke _ _ => rw [hc] at h; cases h
  all_goals (try unfold compBin at h)
  all_goals (repeat' split at h)
  all_goals first | cases h | skip

/-! Worlds that agree on what the evaluator reaches. -/
structure Agr (g : Gh) (w w' : World) : Prop where
  os : w'.os = w.os
  tape : w'.tape = w.tape
  output : w'.output = w.output
  drawn : w.drawn ≤ w'.drawn
  size : w.heap.size ≤ w'.heap.size
  blk : ∀ b, b < w.heap.size → w'.heap[b]? = w.heap[b]? ∨ (¬ RngR g b ∧ ¬ MutF g b ∧ ¬ g.I b ∧ ∀ cur T, w.heap[b]? ≠ some (Obj.cells cur T (0, 0)))
theorem Agr.on (k : Agr g w w') (hi : ∀ b, g.I b → b < w.heap.size) : On g g H H w w' :=
  ⟨fun b h => ⟨h, (k.blk b (hi b h)).elim id fun x => absurd h x.2.2.1⟩, HExt.refl g H, fun b cur T e => (k.blk b (lt_of_some e)).elim (fun x => ⟨cur, x.trans e, rfl⟩) fun x => absurd e (x.2.2.2 cur T), rfl⟩
theorem Rel.agr (h : Rel E nt g F H tmps w) (k : Agr g w w') : Rel E nt g F H tmps w' := by
  have hon := k.on (H := H) h.imm
  refine h.upd hon rfl k.size (fun s b hb => ⟨(k.blk b (h.bimm s b hb).2).elim id fun x => absurd ⟨s, hb⟩ x.2.1, (h.bimm s b hb).1, fun ⟨i, o, e⟩ => h.brho s b i o hb e⟩) (fun id hb e => ?_) h.dist h.rsome fun b hb => Nat.lt_of_lt_of_le (h.imm b hb) k.size
  obtain ⟨b, o, hk⟩ := h.heap id hb e
  have hr : RngR g b := ⟨id, o, hk.at_⟩
  exact ⟨b, o, BlkR_on hon hk ((k.blk b (h.brng hr)).elim (fun x => x) fun x => absurd hr x.1) rfl (fun x => x)⟩
/-- Only what came later is another. -/
theorem Nx.later (n : Nx g g' H H' w w') (k : Agr g' w' w'') (hi : ∀ b, g'.I b → b < w'.heap.size) (hk : ∀ b, b < w.heap.size → w''.heap[b]? = w'.heap[b]?) : Nx g g' H H' w w'' := by
  have o := n.on.trans (k.on (H := H') hi)
  exact ⟨k.os.trans n.os, k.tape.trans n.tape, k.output.trans n.output, Nat.le_trans n.drawn k.drawn, Nat.le_trans n.size k.size, fun b hb h1 h2 => (hk b hb).trans (n.kept b hb h1 h2), n.rng, n.immb, n.bet, o⟩
theorem Agr.nx (k : Agr g w w') (hi : ∀ b, g.I b → b < w.heap.size) (hk : ∀ b, b < w.heap.size → w'.heap[b]? = w.heap[b]?) : Nx g g H H w w' :=
  (Nx.refl g H w).later k hi hk
/-- No cells. -/
def Obj.rec : Obj → Prop
  | .loop _ | .deferred _ => True
  | _ => False
theorem FreeB.agr {b : Nat} {o o' : Obj} (h : FreeB g w b o) (ho : Obj.rec o) : Agr g w (w.putObj b o') := by
  refine ⟨rfl, rfl, rfl, Nat.le_refl _, by simp, fun k hk => ?_⟩
  by_cases e : k = b
  · subst e
    refine .inr ⟨h.rng, h.bet, h.imm, fun cur T e => ?_⟩
    rw [h.at_] at e
    cases e
    exact ho
  · exact .inl (World.putObj_heap_other e)
theorem FreeB.put {b : Nat} {o o' : Obj} (h : FreeB g w b o) : FreeB g (w.putObj b o') b o' := ⟨World.putObj_heap_same h.lt, h.rng, h.bet, h.imm⟩
theorem FreeB.other {b l : Nat} {o o' : Obj} (h : FreeB g w b o) (e : b ≠ l) : FreeB g (w.putObj l o') b o := ⟨(World.putObj_heap_other e).trans h.at_, h.rng, h.bet, h.imm⟩
/-- What a block that nobody reaches is again as it was. -/
theorem Nx.put {l : Nat} {o o1 : Obj} (hl : FreeB g w l o) (ho : Obj.rec o) (n : Nx g g' H H' (w.putObj l o1) w') : Nx g g' H H' w (w'.putObj l o) := by
  have hl' : l < w'.heap.size := Nat.lt_of_lt_of_le (by simpa using hl.lt) n.size
  have hw : ∀ b, b ≠ l → (w.putObj l o1).heap[b]? = w.heap[b]? := fun b e => World.putObj_heap_other e
  have hw' : ∀ b, b ≠ l → (w'.putObj l o).heap[b]? = w'.heap[b]? := fun b e => World.putObj_heap_other e
  have hs : (w.putObj l o1).heap.size = w.heap.size := by simp
  refine ⟨n.os, n.tape, n.output, n.drawn, by rw [World.putObj_size, ← hs]; exact n.size, fun b hb h1 h2 => ?_, fun b hb => n.rng b (by rw [hs]; exact hb), fun b hb => n.immb b (by rw [hs]; exact hb), fun b hb => n.bet b (by rw [hs]; exact hb), ⟨fun b hb => ?_, n.on.hext, fun b cur T e => ?_, n.on.lam⟩⟩
  · by_cases e : b = l
    · subst e; rw [World.putObj_heap_same hl', hl.at_]
    · rw [hw' b e, n.kept b (by rw [hs]; exact hb) h1 h2, hw b e]
  · have e : b ≠ l := fun e => hl.imm (e ▸ hb)
    obtain ⟨h1, h2⟩ := n.on.keeps b hb
    exact ⟨h1, by rw [hw' b e, h2, hw b e]⟩
  · by_cases e2 : b = l
    · subst e2; rw [hl.at_] at e; cases e; exact ho.elim
    · rw [hw' b e2]
      exact n.on.shape b cur T (by rw [hw b e2]; exact e)
theorem putObj_comm {l r : Nat} {o o' : Obj} (h : l ≠ r) : (w.putObj l o).putObj r o' = (w.putObj r o').putObj l o := by
  simp only [World.putObj]
  congr 1
  apply Array.ext_getElem?
  intro i
  simp only [Array.getElem?_setIfInBounds, Array.size_setIfInBounds]
  split
  · rename_i e
    subst e
    rw [if_neg h]
  · rfl
theorem putObj_twice {l : Nat} {o o' : Obj} : (w.putObj l o).putObj l o' = w.putObj l o' := by
  simp only [World.putObj]
  congr 1
  apply Array.ext_getElem?
  intro i
  simp only [Array.getElem?_setIfInBounds, Array.size_setIfInBounds]
  split <;> rfl

/-! The loops' places. -/
def Gh.wl (g : Gh) (L : Nat → Option Nat) : Gh := { g with lam := L }
section
variable {C : Fn → Bool} {I : Nat → Bool} {L : Nat → Option Nat}
mutual
theorem VR_lam (hL : ∀ f, C f = true → g.okF f → (g.wl L).okF f ∧ (g.wl L).tr f = g.tr f) (hI : ∀ id, I id = true → H'[id]? = H[id]?) : ∀ (x : PV) (v : Value), fnAll C I x = true → VR g H w x v → VR (g.wl L) H' w x v
  | .bool b, v, _, h => by simpa only [VR] using h
  | .int q n, v, _, h => by simpa only [VR] using h
  | .nilp, v, _, h => by simpa only [VR] using h
  | .nils, v, _, h => by simpa only [VR] using h
  | .emp, v, _, h => by simpa only [VR] using h
  | .mt _, v, _, h => by simpa only [VR] using h
  | .nilf, v, _, h => by simpa only [VR] using h
  | .ptr id ext i off, v, hc, h => by
    simp only [fnAll] at hc
    simp only [VR] at h ⊢
    obtain ⟨hb, a, e, h⟩ := h
    exact ⟨hb, a, (hI id hc).trans e, h⟩
  | .eptr rows i off, v, _, h => by simp only [VR] at h ⊢; exact h
  | .data rows, v, _, h => by simp only [VR] at h ⊢; exact h
  | .own id lo len ext cap, v, hc, h => by
    simp only [fnAll] at hc
    simp only [VR] at h ⊢
    obtain ⟨hb, a, c, e, h⟩ := h
    exact ⟨hb, a, c, (hI id hc).trans e, h⟩
  | .sub id ext i off n _, v, hc, h => by
    simp only [fnAll] at hc
    simp only [VR] at h ⊢
    obtain ⟨a0, ⟨hb, a, e, h⟩, h2⟩ := h
    exact ⟨a0, ⟨hb, a, (hI id hc).trans e, h⟩, h2⟩
  | .fn f a b, v, hc, h => by
    simp only [fnAll, Bool.and_eq_true] at hc
    simp only [VR] at h ⊢
    obtain ⟨as, bs, e, h1, h2, h3⟩ := h
    obtain ⟨h4, h5⟩ := hL f hc.1 h3
    exact ⟨as, bs, by rw [h5]; exact e, VRs_lam hL hI a as hc.2.1 h1, VRs_lam hL hI b bs hc.2.2 h2, h4⟩
  | .agg cs, v, hc, h => by
    simp only [fnAll] at hc
    simp only [VR] at h ⊢
    obtain ⟨vs, e, h1⟩ := h
    exact ⟨vs, e, VCs_lam hL hI cs vs hc h1⟩
  | .tup ps, v, hc, h => by
    simp only [fnAll] at hc
    simp only [VR] at h ⊢
    obtain ⟨vs, e, h1⟩ := h
    exact ⟨vs, e, VRs_lam hL hI ps vs hc h1⟩
theorem VRs_lam (hL : ∀ f, C f = true → g.okF f → (g.wl L).okF f ∧ (g.wl L).tr f = g.tr f) (hI : ∀ id, I id = true → H'[id]? = H[id]?) : ∀ (l : List PV) (vs : List Value), fnAllL C I l = true → VRs g H w l vs → VRs (g.wl L) H' w l vs
  | [], vs, _, h => by simpa only [VRs] using h
  | x :: r, vs, hc, h => by
    simp only [fnAllL, Bool.and_eq_true] at hc
    simp only [VRs] at h ⊢
    obtain ⟨v, vr, e, h1, h2⟩ := h
    exact ⟨v, vr, e, VR_lam hL hI x v hc.1 h1, VRs_lam hL hI r vr hc.2 h2⟩
theorem VCs_lam (hL : ∀ f, C f = true → g.okF f → (g.wl L).okF f ∧ (g.wl L).tr f = g.tr f) (hI : ∀ id, I id = true → H'[id]? = H[id]?) : ∀ (l : List PV) (vs : List Value), fnAllL C I l = true → VCs g H w l vs → VCs (g.wl L) H' w l vs
  | [], vs, _, h => by simpa only [VCs] using h
  | x :: r, vs, hc, h => by
    simp only [fnAllL, Bool.and_eq_true] at hc
    simp only [VCs] at h ⊢
    obtain ⟨v, vr, e, o, h1, h2⟩ := h
    exact ⟨v, vr, e, o, VR_lam hL hI x v hc.1 h1, VCs_lam hL hI r vr hc.2 h2⟩
end
theorem RowR_lam (hL : ∀ f, C f = true → g.okF f → (g.wl L).okF f ∧ (g.wl L).tr f = g.tr f) (hI : ∀ id, I id = true → H'[id]? = H[id]?) : ∀ (x : PV) (vs : List Value), fnAll C I x = true → RowR g H w x vs → RowR (g.wl L) H' w x vs := by
  intro x vs hc h
  cases x <;> simp only [RowR] at h ⊢ <;> first
    | (simp only [fnAll] at hc; exact VCs_lam hL hI _ _ hc h)
    | (obtain ⟨o, v, e, h1⟩ := h; exact ⟨o, v, e, VR_lam hL hI _ _ hc h1⟩)
theorem RowsR_lam (hL : ∀ f, C f = true → g.okF f → (g.wl L).okF f ∧ (g.wl L).tr f = g.tr f) (hI : ∀ id, I id = true → H'[id]? = H[id]?) (esz b : Nat) : ∀ (l : List PV) (o : Nat), fnAllL C I l = true → RowsR g H w l esz b o → RowsR (g.wl L) H' w l esz b o
  | [], _, _, _ => by simp only [RowsR]
  | x :: r, o, hc, h => by
    simp only [fnAllL, Bool.and_eq_true] at hc
    simp only [RowsR] at h ⊢
    obtain ⟨⟨vs, hl, h1, h2⟩, h3⟩ := h
    exact ⟨⟨vs, hl, RowR_lam hL hI x vs hc.1 h1, h2⟩, RowsR_lam hL hI esz b r (o + esz) hc.2 h3⟩
theorem BlkR_lam (hL : ∀ f, C f = true → g.okF f → (g.wl L).okF f ∧ (g.wl L).tr f = g.tr f) (hI : ∀ id, I id = true → H'[id]? = H[id]?) {id : Nat} {hb : HB} {b o : Nat} (hc : fnAllL C I hb.rows = true) (h : BlkR g H w id hb b o) : BlkR (g.wl L) H' w id hb b o :=
  ⟨h.at_, h.esz, h.cells, RowsR_lam hL hI _ _ _ _ hc h.rows, h.pure, h.fz, h.live⟩
end
mutual
theorem fnAll_true : ∀ x, fnAll (fun _ => true) (fun _ => true) x = true
  | .fn f a b => by simp only [fnAll, fnAllL_true a, fnAllL_true b, Bool.and_self]
  | .agg cs => by simp only [fnAll, fnAllL_true cs]
  | .tup ps => by simp only [fnAll, fnAllL_true ps]
  | .bool _ | .int _ _ | .nilp | .ptr .. | .eptr .. | .nils | .emp | .mt _ | .data _ | .own .. | .sub .. | .nilf => rfl
theorem fnAllL_true : ∀ l, fnAllL (fun _ => true) (fun _ => true) l = true
  | [] => rfl
  | x :: r => by simp only [fnAllL, fnAll_true x, fnAllL_true r, Bool.and_self]
end
/-- A loop has come. -/
theorem Rel.lamUp {L : Nat → Option Nat} (hL : ∀ k l, g.lam k = some l → L k = some l) (h : Rel E nt g F H tmps w) : Rel E nt (g.wl L) F H tmps w := by
  have hU : ∀ f, (fun _ : Fn => true) f = true → g.okF f → (g.wl L).okF f ∧ (g.wl L).tr f = g.tr f := fun f _ hf => Gh.okF_lam (g' := g.wl L) hL hf
  have hI : ∀ id, (fun _ : Nat => true) id = true → H[id]? = H[id]? := fun _ _ => rfl
  refine ⟨h.size, fun s fv e => ?_, fun id hb e => ?_, h.dist, h.rsome, h.bdist, h.brho, h.bimm, h.imm, h.glob⟩
  · have := h.frame s fv e
    cases fv with
    | v p => simp only [FRel] at this ⊢; exact VR_lam hU hI p _ (fnAll_true p) this
    | box row =>
      simp only [FRel] at this ⊢
      obtain ⟨b, h1, h2, h3, cur, T, h4, h5⟩ := this
      exact ⟨b, h1, h2, h3, cur, T, h4, RowR_lam hU hI row _ (fnAll_true row) h5⟩
    | bp s' off => exact this
  · obtain ⟨b, o, hk⟩ := h.heap id hb e
    exact ⟨b, o, BlkR_lam hU hI (fnAllL_true _) hk⟩
theorem noYH_get {C : Fn → Bool} {I : Nat → Bool} : ∀ (H : Hp) (id : Nat) (hb : HB), noYH C I H = true → H[id]? = some hb → fnAllL C I hb.rows = true
  | [], _, _, _, e => by simp at e
  | b :: r, id, hb, h, e => by
    simp only [noYH, Bool.and_eq_true] at h
    cases id with
    | zero => simp at e; subst e; exact h.1
    | succ id => simp at e; exact noYH_get r id hb h.2 e
theorem clrD_get {n0 : Nat} {D : List Nat} : ∀ (i : Nat) (H : Hp) (id : Nat), (clrD n0 D i H)[id]? = (H[id]?).map fun b => bif Nat.ble n0 (i + id) && memB D (i + id) then ⟨b.fz, b.pu, b.esz, []⟩ else b
  | _, [], id => by simp [clrD]
  | i, b :: r, 0 => by simp [clrD]
  | i, b :: r, id + 1 => by
    simp only [clrD, List.getElem?_cons_succ]
    rw [clrD_get (i + 1) r id, show i + 1 + id = i + (id + 1) by omega]
theorem clrD_len {n0 : Nat} {D : List Nat} : ∀ (i : Nat) (H : Hp), (clrD n0 D i H).length = H.length
  | _, [] => rfl
  | i, _ :: r => by simp only [clrD, List.length_cons, clrD_len (i + 1) r]
/-- What is forgotten: rows of blocks that came later. -/
theorem clrY_is {K n0 : Nat} {H2 : Hp} (h : clrY K n0 H = some H2) : H2.length = H.length ∧ ∃ I : Nat → Bool, noYH (noY K) I H2 = true ∧ (∀ id, id < n0 → I id = true) ∧ (∀ id, I id = true → H2[id]? = H[id]?) ∧
    ∀ (id : Nat) (hb : HB), H2[id]? = some hb → ∃ hb0 : HB, H[id]? = some hb0 ∧ hb.fz = hb0.fz ∧ (hb = hb0 ∨ hb = ⟨hb0.fz, hb0.pu, hb0.esz, []⟩) := by
  unfold clrY at h
  split at h
  · cases hn : noYH (noY K) (fun _ => true) H with
    | false => rw [hn] at h; cases h
    | true =>
      rw [hn] at h
      cases h
      exact ⟨rfl, _, hn, fun _ _ => rfl, fun _ _ => rfl, fun id hb e => ⟨hb, e, rfl, .inl rfl⟩⟩
  · rename_i d D _
    dsimp only at h
    generalize deadY K n0 H 3 (d :: D) = D at h
    cases hn : noYH (noY K) (fun id => !(Nat.ble n0 id && memB D id)) (clrD n0 D 0 H) with
    | false => rw [hn] at h; cases h
    | true =>
      rw [hn] at h
      cases h
      refine ⟨clrD_len 0 H, _, hn, fun id hid => ?_, fun id hid => ?_, fun id hb e => ?_⟩
      · have : Nat.ble n0 id = false := by
          cases hb : Nat.ble n0 id with
          | false => rfl
          | true => have := Nat.le_of_ble_eq_true hb; omega
        simp only [this, Bool.false_and, Bool.not_false]
      · have hid : (Nat.ble n0 id && memB D id) = false := by
          cases hx : (Nat.ble n0 id && memB D id) with
          | false => rfl
          | true => rw [hx] at hid; cases hid
        rw [clrD_get, Nat.zero_add, hid]
        cases H[id]? <;> rfl
      · rw [clrD_get, Option.map_eq_some_iff] at e
        obtain ⟨hb0, e0, rfl⟩ := e
        refine ⟨hb0, e0, ?_, ?_⟩
        · cases (Nat.ble n0 (0 + id) && memB D (0 + id)) <;> rfl
        · cases (Nat.ble n0 (0 + id) && memB D (0 + id))
          · exact .inl rfl
          · exact .inr rfl
/-- A loop is gone: of the heap alone. -/
theorem Rel.lamDown {K n0 : Nat} {H2 : Hp} {L : Nat → Option Nat} (hL : ∀ k, k ≠ K → L k = g.lam k) (hc : clrY K n0 H = some H2) (h : Rel E nt g F H tmps w) : Rel E 0 (g.wl L) [] H2 tmps w := by
  have hU : ∀ f, noY K f = true → g.okF f → (g.wl L).okF f ∧ (g.wl L).tr f = g.tr f := by
    intro f hc hf
    cases f with
    | yield k =>
      have hk : k ≠ K := by
        intro e; subst e
        simp [noY] at hc
      simp only [Gh.okF, Gh.tr, Gh.wl] at hf ⊢
      rw [hL k hk]
      exact ⟨hf, rfl⟩
    | _ => exact ⟨trivial, rfl⟩
  obtain ⟨hlen, I, hn, _, hI, hg⟩ := clrY_is hc
  refine ⟨Nat.zero_le _, fun s fv e => by simp [fget] at e, fun id hb e => ?_, fun id id' hb b o b' o' e hf => ?_, fun id b o e => by rw [hlen]; exact h.rsome id b o e, h.bdist, h.brho, h.bimm, h.imm, h.glob⟩
  · obtain ⟨hb0, e0, _, hor⟩ := hg id hb e
    obtain ⟨b, o, hk⟩ := h.heap id hb0 e0
    have hrow := noYH_get H2 id hb hn e
    refine ⟨b, o, ?_⟩
    rcases hor with rfl | rfl
    · exact BlkR_lam hU hI hrow hk
    · obtain ⟨cur, T, k1, k2⟩ := hk.cells
      exact ⟨hk.at_, hk.esz, ⟨cur, T, k1, by simp only [List.length_nil, Nat.zero_mul]; omega⟩, by simp only [RowsR], fun _ => by simp only [RowsC], hk.fz, hk.live⟩
  · obtain ⟨hb0, e0, ez, _⟩ := hg id hb e
    exact h.dist id id' hb0 b o b' o' e0 (by rw [← ez]; exact hf)
/-! Blocks that nobody knows any more. -/
def Gh.cut (g : Gh) (n : Nat) : Gh := { g with ρ := fun id => bif Nat.blt id n then g.ρ id else none }
theorem blt_lt {a b : Nat} (h : Nat.blt a b = true) : a < b := Nat.le_of_ble_eq_true h
theorem lt_blt {a b : Nat} (h : a < b) : Nat.blt a b = true := Nat.ble_eq_true_of_le h
section
variable {n : Nat} {I : Nat → Bool} {H' : Hp}
mutual
theorem VR_cut (hI : ∀ id, I id = true → H'[id]? = H[id]? ∧ id < n) : ∀ (x : PV) (v : Value), fnAll (fun _ => true) I x = true → VR g H w x v → VR (g.cut n) H' w x v
  | .bool b, v, _, h => by simpa only [VR] using h
  | .int q m, v, _, h => by simpa only [VR] using h
  | .nilp, v, _, h => by simpa only [VR] using h
  | .nils, v, _, h => by simpa only [VR] using h
  | .emp, v, _, h => by simpa only [VR] using h
  | .mt _, v, _, h => by simpa only [VR] using h
  | .nilf, v, _, h => by simpa only [VR] using h
  | .ptr id ext i off, v, hc, h => by
    simp only [fnAll] at hc
    simp only [VR, PtrR, Gh.cut, lt_blt (hI id hc).2, cond_true] at h ⊢
    obtain ⟨hb, a, e, h⟩ := h
    exact ⟨hb, a, (hI id hc).1.trans e, h⟩
  | .eptr rows i off, v, _, h => by simp only [VR] at h ⊢; exact h
  | .data rows, v, _, h => by simp only [VR] at h ⊢; exact h
  | .sub id ext i off n _, v, hc, h => by
    simp only [fnAll] at hc
    simp only [VR, PtrR, Gh.cut, lt_blt (hI id hc).2, cond_true] at h ⊢
    obtain ⟨a0, ⟨hb, a, e, h⟩, h2⟩ := h
    exact ⟨a0, ⟨hb, a, (hI id hc).1.trans e, h⟩, h2⟩
  | .own id lo len ext cap, v, hc, h => by
    simp only [fnAll] at hc
    simp only [VR, OwnR, Gh.cut, lt_blt (hI id hc).2, cond_true] at h ⊢
    obtain ⟨hb, a, c, e, h⟩ := h
    exact ⟨hb, a, c, (hI id hc).1.trans e, h⟩
  | .fn f a b, v, hc, h => by
    simp only [fnAll, Bool.and_eq_true] at hc
    simp only [VR] at h ⊢
    obtain ⟨as, bs, e, h1, h2, h3⟩ := h
    refine ⟨as, bs, ?_, VRs_cut hI a as hc.2.1 h1, VRs_cut hI b bs hc.2.2 h2, ?_⟩
    · cases f <;> exact e
    · cases f <;> exact h3
  | .agg cs, v, hc, h => by
    simp only [fnAll] at hc
    simp only [VR] at h ⊢
    obtain ⟨vs, e, h1⟩ := h
    exact ⟨vs, e, VCs_cut hI cs vs hc h1⟩
  | .tup ps, v, hc, h => by
    simp only [fnAll] at hc
    simp only [VR] at h ⊢
    obtain ⟨vs, e, h1⟩ := h
    exact ⟨vs, e, VRs_cut hI ps vs hc h1⟩
theorem VRs_cut (hI : ∀ id, I id = true → H'[id]? = H[id]? ∧ id < n) : ∀ (l : List PV) (vs : List Value), fnAllL (fun _ => true) I l = true → VRs g H w l vs → VRs (g.cut n) H' w l vs
  | [], vs, _, h => by simpa only [VRs] using h
  | x :: r, vs, hc, h => by
    simp only [fnAllL, Bool.and_eq_true] at hc
    simp only [VRs] at h ⊢
    obtain ⟨v, vr, e, h1, h2⟩ := h
    exact ⟨v, vr, e, VR_cut hI x v hc.1 h1, VRs_cut hI r vr hc.2 h2⟩
theorem VCs_cut (hI : ∀ id, I id = true → H'[id]? = H[id]? ∧ id < n) : ∀ (l : List PV) (vs : List Value), fnAllL (fun _ => true) I l = true → VCs g H w l vs → VCs (g.cut n) H' w l vs
  | [], vs, _, h => by simpa only [VCs] using h
  | x :: r, vs, hc, h => by
    simp only [fnAllL, Bool.and_eq_true] at hc
    simp only [VCs] at h ⊢
    obtain ⟨v, vr, e, o, h1, h2⟩ := h
    exact ⟨v, vr, e, o, VR_cut hI x v hc.1 h1, VCs_cut hI r vr hc.2 h2⟩
end
theorem RowR_cut (hI : ∀ id, I id = true → H'[id]? = H[id]? ∧ id < n) : ∀ (x : PV) (vs : List Value), fnAll (fun _ => true) I x = true → RowR g H w x vs → RowR (g.cut n) H' w x vs := by
  intro x vs hc h
  cases x <;> simp only [RowR] at h ⊢ <;> first
    | (simp only [fnAll] at hc; exact VCs_cut hI _ _ hc h)
    | (obtain ⟨o, v, e, h1⟩ := h; exact ⟨o, v, e, VR_cut hI _ _ hc h1⟩)
theorem RowsR_cut (hI : ∀ id, I id = true → H'[id]? = H[id]? ∧ id < n) (esz b : Nat) : ∀ (l : List PV) (o : Nat), fnAllL (fun _ => true) I l = true → RowsR g H w l esz b o → RowsR (g.cut n) H' w l esz b o
  | [], _, _, _ => by simp only [RowsR]
  | x :: r, o, hc, h => by
    simp only [fnAllL, Bool.and_eq_true] at hc
    simp only [RowsR] at h ⊢
    obtain ⟨⟨vs, hl, h1, h2⟩, h3⟩ := h
    exact ⟨⟨vs, hl, RowR_cut hI x vs hc.1 h1, h2⟩, RowsR_cut hI esz b r (o + esz) hc.2 h3⟩
end
mutual
theorem RC_low {J : Nat → Prop} {C : Fn → Bool} {I : Nat → Bool} : ∀ (x : PV) (vs : List Value), RC J w x vs → fnAll C I x = true
  | .bool b, vs, h => rfl
  | .int q n, vs, h => rfl
  | .data rows, vs, h => rfl
  | .agg cs, vs, h => by
    simp only [RC] at h
    simp only [fnAll]
    exact CellsC_low cs vs h
  | .nilp, vs, h | .nils, vs, h | .emp, vs, h | .mt _, vs, h | .nilf, vs, h => by simp [RC] at h
  | .ptr .., vs, h | .eptr .., vs, h | .own .., vs, h | .sub .., vs, h | .fn .., vs, h | .tup .., vs, h => by simp [RC] at h
theorem CellsC_low {J : Nat → Prop} {C : Fn → Bool} {I : Nat → Bool} : ∀ (l : List PV) (vs : List Value), CellsC J w l vs → fnAllL C I l = true
  | [], vs, h => rfl
  | x :: r, vs, h => by
    simp only [CellsC] at h
    obtain ⟨v, vr, e, o, h1, h2⟩ := h
    simp only [fnAllL, RC_low x [v] h1, CellsC_low r vr h2, Bool.and_self]
end
theorem RowsC_low {J : Nat → Prop} {C : Fn → Bool} {I : Nat → Bool} : ∀ (l : List PV) (esz b o : Nat), RowsC J w l esz b o → fnAllL C I l = true
  | [], _, _, _, _ => rfl
  | x :: r, esz, b, o, h => by
    simp only [RowsC] at h
    obtain ⟨⟨vs, hl, h1, h2⟩, h3⟩ := h
    simp only [fnAllL, RC_low x vs h1, RowsC_low r esz b (o + esz) h3, Bool.and_self]
theorem lowF_get {I : Nat → Bool} : ∀ (F : Frm) (s : Nat) (fv : FV), lowF I F = true → fget F s = some fv → (match fv with | .v p => fnAll (fun _ => true) I p = true | .box p => fnAll (fun _ => true) I p = true | .bp _ _ => True)
  | [], _, _, _, e => by simp [fget] at e
  | (k, x) :: r, s, fv, h, e => by
    simp only [fget] at e
    by_cases hk : k = s
    · rw [if_pos hk] at e
      cases e
      cases x with
      | v p => simp only [lowF, Bool.and_eq_true] at h; exact h.1
      | box p => simp only [lowF, Bool.and_eq_true] at h; exact h.1
      | bp a b => trivial
    · rw [if_neg hk] at e
      refine lowF_get r s fv ?_ e
      cases x with
      | v p => simp only [lowF, Bool.and_eq_true] at h; exact h.2
      | box p => simp only [lowF, Bool.and_eq_true] at h; exact h.2
      | bp a b => simpa only [lowF] using h
theorem topL_ge {D : List Nat} {n : Nat} : ∀ k, n ≤ topL D n k
  | 0 => Nat.le_refl _
  | k + 1 => by
    simp only [topL]
    cases memB D (n + k) with
    | true => exact topL_ge k
    | false => simp only [cond_false]; omega
theorem lowH_get {I : Nat → Bool} : ∀ (H : Hp) (id : Nat) (hb : HB), lowH I H = true → H[id]? = some hb → hb.pu = true ∨ fnAllL (fun _ => true) I hb.rows = true
  | [], _, _, _, e => by simp at e
  | b :: r, id, hb, h, e => by
    simp only [lowH, Bool.and_eq_true, Bool.or_eq_true] at h
    cases id with
    | zero => simp at e; subst e; exact h.1
    | succ id => simp at e; exact lowH_get r id hb h.2 e
/-- What came and nobody knows any more is forgotten. -/
theorem Rel.gc {w0 : World} {g0 : Gh} {H0 : Hp} (hn : Nx g0 g H0 H w0 w) (h : Rel E nt g F H tmps w) : ∃ g', Nx g0 g' H0 (gcH F H0.length H) w0 w ∧ Rel E nt g' F (gcH F H0.length H) tmps w ∧ (∀ b, RngR g' b → RngR g b) ∧ g'.β = g.β ∧ g'.I = g.I := by
  unfold gcH
  have hlen : ∀ id hb, H0[id]? = some hb → id < H0.length := fun id hb e => (List.getElem?_eq_some_iff.1 e).1
  generalize H0.length = n0 at hlen ⊢
  dsimp only
  generalize gcD F H 4 (fromN n0 (H.length - n0)) = D
  have hge : n0 ≤ topL D n0 (H.length - n0) := topL_ge _
  generalize topL D n0 (H.length - n0) = n at hge ⊢
  cases hc : (lowF (fun id => Nat.blt id n && !(Nat.ble n0 id && memB D id)) F && lowH (fun id => Nat.blt id n && !(Nat.ble n0 id && memB D id)) ((clrD n0 D 0 H).take n)) with
  | false => exact ⟨g, hn, h, fun _ h => h, rfl, rfl⟩
  | true =>
    simp only [Bool.and_eq_true] at hc
    rw [cond_true]
    have hI : ∀ id, (Nat.blt id n && !(Nat.ble n0 id && memB D id)) = true → ((clrD n0 D 0 H).take n)[id]? = H[id]? ∧ id < n := fun id hid => by
      simp only [Bool.and_eq_true, Bool.not_eq_true'] at hid
      refine ⟨?_, blt_lt hid.1⟩
      rw [List.getElem?_take, if_pos (blt_lt hid.1), clrD_get, Nat.zero_add, hid.2]
      cases H[id]? <;> rfl
    have hρ : ∀ id b o, (g.cut n).ρ id = some (b, o) → id < n ∧ g.ρ id = some (b, o) := by
      intro id b o e
      simp only [Gh.cut] at e
      cases hb : Nat.blt id n with
      | true => rw [hb, cond_true] at e; exact ⟨blt_lt hb, e⟩
      | false => rw [hb, cond_false] at e; cases e
    have hρ2 : ∀ id, id < n → (g.cut n).ρ id = g.ρ id := fun id hid => by simp only [Gh.cut, lt_blt hid, cond_true]
    have hget : ∀ id hb, ((clrD n0 D 0 H).take n)[id]? = some hb → id < n ∧ ∃ hb0 : HB, H[id]? = some hb0 ∧ hb.fz = hb0.fz ∧ (hb = hb0 ∨ hb = ⟨hb0.fz, hb0.pu, hb0.esz, []⟩) := by
      intro id hb e
      rw [List.getElem?_take] at e
      by_cases hid : id < n
      · rw [if_pos hid, clrD_get, Option.map_eq_some_iff] at e
        obtain ⟨hb0, e0, rfl⟩ := e
        refine ⟨hid, hb0, e0, ?_, ?_⟩
        · cases (Nat.ble n0 (0 + id) && memB D (0 + id)) <;> rfl
        · cases (Nat.ble n0 (0 + id) && memB D (0 + id))
          · exact .inl rfl
          · exact .inr rfl
      · rw [if_neg hid] at e; cases e
    have hR : ∀ b, RngR (g.cut n) b → RngR g b := fun b ⟨id, o, e⟩ => ⟨id, o, (hρ id b o e).2⟩
    refine ⟨g.cut n, ⟨hn.os, hn.tape, hn.output, hn.drawn, hn.size, hn.kept, fun b hb h2 => hn.rng b hb (hR b h2), hn.immb, hn.bet, ⟨hn.on.keeps, fun id hb e => ?_, hn.on.shape, hn.on.lam⟩⟩, ⟨h.size, fun s fv e => ?_, fun id hb e => ?_, fun id id' hb b o b' o' e hf hne e1 e2 => ?_, fun id b o e => ?_, h.bdist, fun s b id o e1 e2 => h.brho s b id o e1 (hρ id b o e2).2, h.bimm, h.imm, h.glob⟩, hR, rfl, rfl⟩
    · obtain ⟨hb', e', k1, k2, k3⟩ := hn.on.hext id hb e
      have hid := hlen id hb e
      have hlow : (Nat.blt id n && !(Nat.ble n0 id && memB D id)) = true := by
        have : Nat.ble n0 id = false := by
          cases hb : Nat.ble n0 id with
          | false => rfl
          | true => have := Nat.le_of_ble_eq_true hb; omega
        rw [this, lt_blt (show id < n by omega)]
        rfl
      exact ⟨hb', by rw [(hI id hlow).1]; exact e', k1, k2, k3.imp_right fun ⟨l, r⟩ => ⟨l, (hρ2 id (by omega)).trans r⟩⟩
    · have h1 := h.frame s fv e
      have h2 := lowF_get F s fv hc.1 e
      cases fv with
      | v p => simp only [FRel] at h1 ⊢; exact VR_cut hI p _ h2 h1
      | box row =>
        simp only [FRel] at h1 ⊢
        obtain ⟨b, k1, k2, k3, cur, T, k4, k5⟩ := h1
        exact ⟨b, k1, k2, k3, cur, T, k4, RowR_cut hI row _ h2 k5⟩
      | bp s' off => exact h1
    · obtain ⟨hid, hb0, e1, _, hor⟩ := hget id hb e
      obtain ⟨b, o, hk⟩ := h.heap id hb0 e1
      refine ⟨b, o, ?_⟩
      rcases hor with rfl | rfl
      · have hrow : fnAllL (fun _ => true) (fun id => Nat.blt id n && !(Nat.ble n0 id && memB D id)) hb.rows = true := by
          rcases lowH_get _ id hb hc.2 e with hp | hp
          · exact RowsC_low _ _ _ _ (hk.pure hp)
          · exact hp
        exact ⟨(hρ2 id hid).trans hk.at_, hk.esz, hk.cells, RowsR_cut hI _ _ _ _ hrow hk.rows, hk.pure, hk.fz, hk.live⟩
      · obtain ⟨cur, T, k1, k2⟩ := hk.cells
        exact ⟨(hρ2 id hid).trans hk.at_, hk.esz, ⟨cur, T, k1, by simp only [List.length_nil, Nat.zero_mul]; omega⟩, by simp only [RowsR], fun _ => by simp only [RowsC], hk.fz, hk.live⟩
    · obtain ⟨_, hb0, e0, ez, _⟩ := hget id hb e
      exact h.dist id id' hb0 b o b' o' e0 (by rw [← ez]; exact hf) hne (hρ id b o e1).2 (hρ id' b' o' e2).2
    · have h1 := hρ id b o e
      have := h.rsome id b o h1.2
      rw [List.length_take, clrD_len]
      omega
theorem clrY_hext {K : Nat} {g2 : Gh} {H1 H2 : Hp} (hc : clrY K H.length H1 = some H2) (h : HExt g g2 H H1) : HExt g g2 H H2 := by
  obtain ⟨_, I, _, h0, hI, _⟩ := clrY_is hc
  intro id hb e
  obtain ⟨hb', e', h1⟩ := h id hb e
  exact ⟨hb', (hI id (h0 id (List.getElem?_eq_some_iff.1 e).1)).trans e', h1⟩
end
end Go.Pf
