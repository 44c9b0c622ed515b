/- The framework, part 21: regions in an order; code; functions. Regions with a draw are left open ('DrawOk'). -/
import Derived.Test.YthlajkcfbpfmdaaFw20
namespace Go.Pf
open Go Go.RowKit

section
variable {P : Program} {E : Env} {nt : Nat} {g g' : Gh} {F F' : Frm} {H H' : Hp} {a : Act} {tmps : Array Value} {w w' : World} {o : Oper}

/-- What is tested ahead of an operation. -/
def GuardR (all : Array Oper) (o : Oper) (gd : Option (Nat × Bool)) : Prop :=
  (o.guard = none ∧ gd = none) ∨ ∃ j want s, o.guard = some (j, want) ∧ (all[j]?).bind (·.dst) = some s ∧ gd = some (s, want)

theorem compOps_get {loc : List Nat} {all : Array Oper} : ∀ (l : List Oper) (r : List AOper), compOps P loc all l = some r →
    r.length = l.length ∧ ∀ (i : Nat) (o : Oper), l[i]? = some o → ∃ gd, r[i]? = some ⟨o.dst, compOp P loc o, gd⟩ ∧ GuardR all o gd
  | [], r, h => by
    simp [compOps] at h; subst h
    exact ⟨rfl, fun i o e => by simp at e⟩
  | x :: l, r, h => by
    simp only [compOps] at h
    split at h
    · rename_i l' hl
      obtain ⟨h1, h2⟩ := compOps_get l l' hl
      split at h
      · rename_i hg
        cases h
        refine ⟨by simp [h1], fun i o e => ?_⟩
        cases i with
        | zero => simp at e; subst e; exact ⟨none, rfl, .inl ⟨hg, rfl⟩⟩
        | succ i => simp at e; simpa using h2 i o e
      · rename_i j want hg
        split at h
        · rename_i s hs
          cases h
          refine ⟨by simp [h1], fun i o e => ?_⟩
          cases i with
          | zero => simp at e; subst e; exact ⟨some (s, want), rfl, .inr ⟨j, want, s, hg, hs, rfl⟩⟩
          | succ i => simp at e; simpa using h2 i o e
        · cases h
    · cases h

theorem guard_sound (hr : Rel E nt g F H a.tmps w) {all : Array Oper} {gd : Option (Nat × Bool)} {b : Bool} (hg : GuardR all o gd) (h : guardOk F gd = some b) : Region.wanted o (yielded all a.tmps) = b := by
  rcases hg with ⟨h1, rfl⟩ | ⟨j, want, s, h1, h2, rfl⟩
  · simp only [guardOk, Option.some.injEq] at h
    simp [Region.wanted, h1, ← h]
  · simp only [guardOk] at h
    split at h
    · rename_i b0 hb0
      have hv := hr.frame s _ hb0
      simp only [FRel, VR] at hv
      have : a.tmps[s]? = some (.bool b0) := by
        rw [Array.getD_eq_getD_getElem?] at hv
        cases e : a.tmps[s]? with
        | none => rw [e] at hv; simp [undef] at hv
        | some x => rw [e] at hv; simpa using hv
      have hy : yielded all a.tmps j = some b0 := by
        unfold yielded
        rw [h2]
        simp [this]
      simp only [Option.some.injEq] at h
      simp only [Region.wanted, h1, hy, ← h]
      cases b0 <;> cases want <;> rfl
    · rename_i hb0
      have hv := hr.frame s _ hb0
      simp only [FRel, VR, VRs] at hv
      obtain ⟨vs, hv, rfl⟩ := hv
      have hy : yielded all a.tmps j = none := by
        unfold yielded
        rw [h2]
        simp only [Option.bind_some]
        rw [Array.getD_eq_getD_getElem?] at hv
        cases e : a.tmps[s]? with
        | none => rfl
        | some x => rw [e] at hv; simp at hv; subst hv; rfl
      simp only [Option.some.injEq] at h
      simp only [Region.wanted, h1, hy, ← h]
      rfl
    · cases h

theorem put_defers (a : Act) (dst : Option Tmp) (v : Value) : (a.put dst v).defers = a.defers := by cases dst <;> rfl

theorem dstsB_get : ∀ (l : List Oper), dstsB nt l = true → ∀ (i : Nat) (o : Oper), l[i]? = some o → ∀ d, o.dst = some d → d < nt
  | [], _, i, o, e => by simp at e
  | x :: l, h, i, o, e => by
    simp only [dstsB, Bool.and_eq_true] at h
    cases i with
    | zero =>
      simp at e; subst e
      intro d hd
      have := h.1
      rw [hd] at this
      simpa using this
    | succ i => simp at e; exact dstsB_get l h.2 i o e

/-- A deferred call that does nothing where nothing was raised. -/
def NoopD (E : Env) (d : Deferred) : Prop := ∃ n args, d = { target := .fn (.func n) #[], args := args } ∧ E.dn n = true
/-- What may have been deferred on the way. -/
def GoD (E : Env) (a a' : Act) : Prop := ∃ ds, a'.defers = ds ++ a.defers ∧ ∀ d ∈ ds, NoopD E d
theorem GoD.same {a a' : Act} (h : a'.defers = a.defers) : GoD E a a' := ⟨[], h, fun d hd => by cases hd⟩
theorem GoD.trans {a1 a2 a3 : Act} (h : GoD E a1 a2) (k : GoD E a2 a3) : GoD E a1 a3 := by
  obtain ⟨d1, e1, h1⟩ := h
  obtain ⟨d2, e2, h2⟩ := k
  exact ⟨d2 ++ d1, by rw [e2, e1, List.append_assoc], fun d hd => (List.mem_append.1 hd).elim (h2 d) (h1 d)⟩
theorem hasD_get : ∀ (l : List Oper) (i : Nat) (o : Oper) (c : Call), l[i]? = some o → o.op = .defer c → hasD l = true
  | [], i, o, c, e, _ => by simp at e
  | x :: l, i, o, c, e, h => by
    simp only [hasD, Bool.or_eq_true]
    cases i with
    | zero => simp at e; subst e; exact .inl (by rw [h])
    | succ i => simp at e; exact .inr (hasD_get l i o c e h)
theorem isDfr_inv {loc : List Nat} (h : isDfr (compOp P loc o) = true) : ∃ c n, o.op = .defer c ∧ c.callee = .value (.func n) ∧ compOp P loc o = .dfr n ∧ o.dst = none := by
  unfold compOp at h
  cases ho : o.op <;> rw [ho] at h <;> simp only [] at h
  case defer c =>
    cases hds : o.dst with
    | some d => rw [hds] at h; cases h
    | none =>
    rw [hds] at h
    cases hc : c.callee with
    | value f =>
      rw [hc] at h
      cases f with
      | func n => exact ⟨c, n, rfl, hc, by unfold compOp; rw [ho]; simp only [hc, hds], rfl⟩
      | _ => cases h
    | _ => rw [hc] at h; cases h
  all_goals (try unfold compBin at h)
  all_goals (try unfold compBuiltin at h)
  all_goals (repeat' split at h)
  all_goals first | cases h | skip
/-- One operation of a region. -/
theorem step_sound {ro : Option Nat} (hE : EnvOk P E) {call} (hc : InlineOk P E call) {ops : Array Oper} {loc : List Nat} {i : Nat} {rest : List Nat} {gd : Option (Nat × Bool)} {Q : Exit → Act → World → Prop}
    (hr : Rel E nt g F H a.tmps w) (hL : Lps P E g H w) (ho : ops[i]? = some o) (hg : GuardR ops o gd) (hd : ∀ d, o.dst = some d → d < nt) (h : stepOp E call F H ⟨o.dst, compOp P loc o, gd⟩ = some (F', H'))
    (hro : hasD ops.toList = true → ro = none) (hn0 : ∀ a' w' g', GoD E a a' → Nx g g' H H' w w' → Rel E nt g' F' H' a'.tmps w' → wpOpsIn (Fc ro) 0 P ops Q rest a' w') : wpOpsIn (Fc ro) 0 P ops Q (i :: rest) a w := by
  have hn : ∀ v w' g', Nx g g' H H' w w' → Rel E nt g' F' H' (a.put o.dst v).tmps w' → wpOpsIn (Fc ro) 0 P ops Q rest (a.put o.dst v) w' := fun v w' g' n r => hn0 _ w' g' (GoD.same (put_defers _ _ _)) n r
  simp only [wpOpsIn, ho]
  unfold stepOp at h
  split at h
  · cases h
  · rename_i hgd
    rw [if_neg (by rw [guard_sound hr hg hgd]; simp)]
    refine ⟨fun _ _ => trivial, ?_⟩
    cases hdst : o.dst with
    | none =>
      rw [hdst] at h; simp only [Option.some.injEq, Prod.mk.injEq] at h
      obtain ⟨rfl, rfl⟩ := h
      have := hn undef w g (Nx.refl g H w)
      rw [hdst] at this
      exact this hr
    | some d =>
      rw [hdst] at h; simp only [Option.some.injEq, Prod.mk.injEq] at h
      obtain ⟨rfl, rfl⟩ := h
      have := hn undef w g (Nx.refl g H w)
      rw [hdst] at this
      refine this ?_
      rw [put_tmps]
      exact hr.putV (hd d hdst) (by simp [VR, VRs, undef])
  · rename_i hgd
    rw [if_pos (guard_sound hr hg hgd)]
    split at h
    · cases h
    · rename_i out x bx H1 hout
      simp only [Option.map_eq_some_iff] at h
      obtain ⟨F1, hp, e⟩ := h
      cases e
      by_cases hcall : isCall (compOp P loc o) = true
      · obtain ⟨c, f, f', as', h1, h2, h3, h4, h5⟩ := isCall_inv hcall
        simp only [h5] at hout
        exact op_call hE hc hr hL h1 h2 h3 h4 hout hd hp hn
      · by_cases hdf : isDfr (compOp P loc o) = true
        · obtain ⟨c, n, h1, h2, h3, hds⟩ := isDfr_inv hdf
          obtain rfl := hro (hasD_get ops.toList i o c (by simpa using ho) h1)
          rw [h3] at hout
          simp only [opOut] at hout
          split at hout
          · rename_i hdn
            simp only [outV, Option.some.injEq, Out.mk.injEq] at hout
            obtain ⟨rfl, rfl, rfl⟩ := hout
            refine ⟨fun _ _ => trivial, ?_⟩
            have hrun : (o.semAt none a.eval).run P w = .ok (.defer { target := .fn (.func n) #[], args := c.args.map a.eval }) w := by
              have e1 : a.eval (.func n) = .func (.func n) #[] #[] := rfl
              simp [Oper.semAt, execOp, h1, resolve, h2, e1, Deferred.ofValue]
            show Oper.uponIn _ _ _ _ _ _ _ ((o.semAt none a.eval).run P w)
            rw [hrun]
            simp only [Oper.uponIn]
            refine hn0 _ w g ⟨[{ target := .fn (.func n) #[], args := c.args.map a.eval }], ?_, fun d hd => ?_⟩ (Nx.refl g H w) ?_
            · rw [put_defers]; rfl
            · rw [List.mem_singleton.1 hd]; exact ⟨n, _, rfl, hdn⟩
            · rw [hds] at hp ⊢
              simp only [putBx, putDst] at hp
              cases hp
              exact hr
          · cases hout
        · have hnd : ∀ c, o.op ≠ .defer c := by
            intro c e
            unfold compOp at hout hdf
            rw [e] at hout hdf
            simp only [] at hout hdf
            cases hds : o.dst with
            | some d => rw [hds] at hout; simp [opOut] at hout
            | none =>
            rw [hds] at hout hdf
            cases hcal : c.callee with
            | value f =>
              rw [hcal] at hout hdf
              cases f with
              | func n => exact hdf rfl
              | _ => simp [opOut] at hout
            | _ => rw [hcal] at hout; simp [opOut] at hout
          exact StepR.wp hnd (op_sound hr (by simpa using hcall) (by simpa using hdf) hout hd hp) hn

theorem runOps_sound {ro : Option Nat} (hE : EnvOk P E) {call} (hc : InlineOk P E call) {ops : Array Oper} {loc : List Nat} {l : List AOper} {Q : Exit → Act → World → Prop} {F' : Frm} {H' : Hp} (hl : compOps P loc ops ops.toList = some l) (hd : dstsB nt ops.toList = true) (hro : hasD ops.toList = true → ro = none) {ρ : List Nat} :
    ∀ (σ : List Nat) (g : Gh) (F : Frm) (H : Hp) (a : Act) (w : World), (∀ i ∈ σ, i < ops.size) → Rel E nt g F H a.tmps w → Lps P E g H w → runOps E call (σ.filterMap (l[·]?)) F H = some (F', H') →
      (∀ a' w' g', GoD E a a' → Nx g g' H H' w w' → Rel E nt g' F' H' a'.tmps w' → wpOpsIn (Fc ro) 0 P ops Q ρ a' w') → wpOpsIn (Fc ro) 0 P ops Q (σ ++ ρ) a w
  | [], g, F, H, a, w, _, hr, _, h, hq => by
    simp only [List.filterMap_nil, runOps, Option.some.injEq, Prod.mk.injEq] at h
    obtain ⟨rfl, rfl⟩ := h
    exact hq a w g (GoD.same rfl) (Nx.refl g H w) hr
  | i :: σ, g, F, H, a, w, hσ, hr, hL, h, hq => by
    obtain ⟨hlen, hget⟩ := compOps_get _ _ hl
    have hi : i < ops.size := hσ i (by simp)
    have hoi : ops[i]? = some ops[i] := by simp [hi]
    have hoi' : ops.toList[i]? = some ops[i] := by simp [hi]
    obtain ⟨gd, hli, hgd⟩ := hget i _ hoi'
    rw [List.filterMap_cons, hli] at h
    simp only [runOps] at h
    split at h
    · rename_i F1 H1 hs
      refine step_sound hE hc hr hL hoi hgd (dstsB_get _ hd i _ hoi') hs hro fun a1 w1 g1 d1 n1 r1 => ?_
      exact runOps_sound hE hc hl hd hro σ g1 F1 H1 a1 w1 (fun j hj => hσ j (by simp [hj])) r1 (hL.nx n1) h fun a' w' g' hdf n2 r2 => hq a' w' g' (d1.trans hdf) (n1.trans n2) r2
    · cases h

theorem range_filterMap {α : Type} (l : List α) : (List.range l.length).filterMap (l[·]?) = l := by
  induction l with
  | nil => rfl
  | cons x l ih =>
    rw [List.length_cons, List.range_succ_eq_map, List.filterMap_cons]
    simp only [List.getElem?_cons_zero]
    rw [List.filterMap_map]
    congr 1

/-- How a piece of code ended. -/
def ExR : Ex → Exit → Prop
  | .norm, .normal => True
  | .exit i, .exit j => i = j
  | .ret, .ret => True
  | _, _ => False

/-- A mark among the deferred calls. -/
abbrev mk (r : Nat) : Deferred := { target := .collected r, args := #[] }
/-- The deferred calls are marks of loops that were entered in this activation; and calls that do nothing. -/
def toD (x : Option Nat × Deferred) : Deferred := match x.1 with | some r => mk r | none => x.2
def DfOk (E : Env) (base : Nat) (g : Gh) (w : World) (ds : List Deferred) : Prop :=
  ∃ l : List (Option Nat × Deferred), ds = l.map toD ∧ (l.filterMap (·.1)).Nodup ∧ (∀ r ∈ l.filterMap (·.1), base ≤ r ∧ FreeB g w r (.deferred (some []))) ∧ ∀ x ∈ l, x.1 = none → NoopD E x.2
theorem DfOk.nx {base : Nat} {ds : List Deferred} (h : DfOk E base g w ds) (n : Nx g g' H H' w w') : DfOk E base g' w' ds := by
  obtain ⟨l, h1, h2, h3, h4⟩ := h
  exact ⟨l, h1, h2, fun r hr => ⟨(h3 r hr).1, (h3 r hr).2.nx n⟩, h4⟩
theorem DfOk.nil {base : Nat} : DfOk E base g w [] := ⟨[], rfl, List.nodup_nil, fun r h => (by cases h), fun x h => by cases h⟩
theorem DfOk.go {base : Nat} {a a' : Act} (h : DfOk E base g w a.defers) (k : GoD E a a') : DfOk E base g w a'.defers := by
  obtain ⟨l, h1, h2, h3, h4⟩ := h
  obtain ⟨ds, e, k1⟩ := k
  have hn : ((ds.map fun d => ((none : Option Nat), d)) ++ l).filterMap (·.1) = l.filterMap (·.1) := by
    rw [List.filterMap_append]
    have : (ds.map fun d => ((none : Option Nat), d)).filterMap (·.1) = [] := by
      rw [List.filterMap_eq_nil_iff]
      intro x hx
      obtain ⟨d, _, rfl⟩ := List.mem_map.1 hx
      rfl
    rw [this, List.nil_append]
  refine ⟨ds.map (fun d => (none, d)) ++ l, ?_, by rw [hn]; exact h2, fun r hr => h3 r (by rw [hn] at hr; exact hr), fun x hx hn => ?_⟩
  · rw [e, h1, List.map_append, List.map_map]
    congr 1
    exact (List.map_id ds).symm
  · rcases List.mem_append.1 hx with hx | hx
    · obtain ⟨d, hd, rfl⟩ := List.mem_map.1 hx
      exact k1 d hd
    · exact h4 x hx hn
/-- The record of a loop that is left by an exit. -/
def doneObj (r : Loop) (i : Nat) : Obj := .loop { r with state := .done, pending := some (.exit i) }

def PostR (E : Env) (nt base : Nat) (g : Gh) (H : Hp) (w : World) (ex : Ex) (F' : Frm) (H' : Hp) : Exit → Act → World → Prop :=
  fun e a' w' => match ex with
    | .brk k i => e = .ret ∧ ∃ g' w1 l r, g.lam k = some l ∧ Nx g g' H H' w w1 ∧ Rel E nt g' F' H' a'.tmps w1 ∧ FreeB g' w1 l (.loop r) ∧ DfOk E base g' w1 a'.defers ∧ w' = w1.putObj l (doneObj r i)
    | ex => ExR ex e ∧ ∃ g', Nx g g' H H' w w' ∧ Rel E nt g' F' H' a'.tmps w' ∧ DfOk E base g' w' a'.defers

/-- Regions with a draw are sound. -/
def DrawOk (P : Program) (E : Env) (call : Nat → List PV → Hp → Option (PV × Hp)) : Prop :=
  ∀ (ro : Option Nat) (nt base : Nat) (g : Gh) (F : Frm) (H : Hp) (a : Act) (w : World) (loc : List Nat) (ops : Array Oper) (l : List AOper) (F' : Frm) (H' : Hp) (id : Nat),
    (hasD ops.toList = true → ro = none) → compOps P loc ops ops.toList = some l → dstsB nt ops.toList = true → edgesBack ops.toList = true →
    runReg E call l (freePairs (closeB ops.toList [])) F H = some (F', H') → Rel E nt g F H a.tmps w → Lps P E g H w → DfOk E base g w a.defers →
    (Code.region id ops true).wpIn (Fc ro) 0 P (PostR E nt base g H w .norm F' H') a w

theorem runOps_all {ro : Option Nat} (hE : EnvOk P E) {call} (hc : InlineOk P E call) {ops : Array Oper} {loc : List Nat} {l : List AOper} {Q : Exit → Act → World → Prop} {F' : Frm} {H' : Hp} (hl : compOps P loc ops ops.toList = some l) (hd : dstsB nt ops.toList = true) (hro : hasD ops.toList = true → ro = none)
    (σ : List Nat) (g : Gh) (F : Frm) (H : Hp) (a : Act) (w : World) (h1 : ∀ i ∈ σ, i < ops.size) (hr : Rel E nt g F H a.tmps w) (hL : Lps P E g H w) (h : runOps E call (σ.filterMap (l[·]?)) F H = some (F', H'))
    (hq : ∀ a' w' g', GoD E a a' → Nx g g' H H' w w' → Rel E nt g' F' H' a'.tmps w' → Q .normal a' w') : wpOpsIn (Fc ro) 0 P ops Q σ a w := by
  have := runOps_sound (ro := ro) (Q := Q) (ρ := []) hE hc hl hd hro σ g F H a w h1 hr hL h fun a' w' g' e1 e2 e3 => by simpa only [wpOpsIn] using hq a' w' g' e1 e2 e3
  simpa using this

theorem region_sound {ro : Option Nat} {base : Nat} (hE : EnvOk P E) {call} (hc : InlineOk P E call) {ops : Array Oper} {loc : List Nat} {l : List AOper} {id : Nat} (hl : compOps P loc ops ops.toList = some l) (hd : dstsB nt ops.toList = true)
    (hro : hasD ops.toList = true → ro = none) (h : runOps E call l F H = some (F', H')) (hr : Rel E nt g F H a.tmps w) (hL : Lps P E g H w) (hdf : DfOk E base g w a.defers) : (Code.region id ops false).wpIn (Fc ro) 0 P (PostR E nt base g H w .norm F' H') a w := by
  refine wpIn_region (runOps_all (F' := F') (H' := H') hE hc hl hd hro _ g F H a w (fun i hi => by simpa using hi) hr hL ?_ ?_)
  · have hlen := (compOps_get _ _ hl).1
    have : ops.size = l.length := by simpa using hlen.symm
    rw [this, range_filterMap]
    exact h
  · intro a' w' g' h1 h2 h3
    exact ⟨trivial, g', h2, h3, (hdf.nx h2).go h1⟩

theorem PostR.fdels {base : Nat} {g : Gh} {ex : Ex} {e : Exit} {fs : List Nat} {a' : Act} (h : PostR E nt base g H w ex F' H' e a' w') : PostR E nt base g H w ex (fdels F' fs) H' e a' w' := by
  cases ex with
  | brk k i =>
    obtain ⟨h1, g', w1, l, r, h2, h3, h4, h5, h6, h7⟩ := h
    exact ⟨h1, g', w1, l, r, h2, h3, h4.less fun s x hs => fget_fdels fs F' s x hs, h5, h6, h7⟩
  | _ =>
    obtain ⟨h1, g', h3, h4, h5⟩ := h
    exact ⟨h1, g', h3, h4.less fun s x hs => fget_fdels fs F' s x hs, h5⟩

theorem PostR.trans {base : Nat} {g g1 : Gh} {H1 : Hp} {w1 : World} {ex : Ex} {e : Exit} {a' : Act} (hn : Nx g g1 H H1 w w1) (h : PostR E nt base g1 H1 w1 ex F' H' e a' w') : PostR E nt base g H w ex F' H' e a' w' := by
  cases ex with
  | brk k i =>
    obtain ⟨h1, g', w2, l, r, h2, h3, h4, h5, h6, h7⟩ := h
    exact ⟨h1, g', w2, l, r, by rw [← hn.on.lam]; exact h2, hn.trans h3, h4, h5, h6, h7⟩
  | _ =>
    obtain ⟨h1, g', h3, h4, h5⟩ := h
    exact ⟨h1, g', hn.trans h3, h4, h5⟩

def ExecOk (P : Program) (E : Env) (n : Nat) : Prop :=
  ∀ (ro : Option Nat) (inR : Bool) (loc : List Nat) (fg : Nat → List Nat) (nt base : Nat) (c : Code) (g : Gh) (F : Frm) (H : Hp) (a : Act) (w : World) (ex : Ex) (F' : Frm) (H' : Hp), (inR = false → ro = none) →
    exec E n (compCode P loc fg nt inR c) F H = some (ex, F', H') → Rel E nt g F H a.tmps w → Lps P E g H w → base ≤ w.heap.size → DfOk E base g w a.defers → c.wpIn (Fc ro) 0 P (PostR E nt base g H w ex F' H') a w
def LoopOk (P : Program) (E : Env) (n : Nat) : Prop :=
  ∀ (ro : Option Nat) (inR : Bool) (loc : List Nat) (fg : Nat → List Nat) (nt base : Nat) (c : Code) (g : Gh) (F : Frm) (H : Hp) (a : Act) (w : World) (ex : Ex) (F' : Frm) (H' : Hp), (inR = false → ro = none) →
    exec E n (.loop (compCode P loc fg nt inR c)) F H = some (ex, F', H') → Rel E nt g F H a.tmps w → Lps P E g H w → base ≤ w.heap.size → DfOk E base g w a.defers →
    ∀ (b : Frame) (k : List Item) (cs : List Frame), b.roundOf = ro → ∃ e a' w', PostR E nt base g H w ex F' H' e a' w' ∧ ArrivesIn (Machine.fenced P (Fc ro)) P (lone (b.atR a (.code c :: .inLoop c :: k)) cs w) b k cs e a' w'
def LoopGOk (P : Program) (E : Env) (n : Nat) : Prop :=
  ∀ (ro : Option Nat) (inR : Bool) (loc : List Nat) (fg : Nat → List Nat) (nt base : Nat) (c : Code) (g : Gh) (F : Frm) (H : Hp) (a : Act) (w : World) (ex : Ex) (F' : Frm) (H' : Hp), (inR = false → ro = none) →
    exec E n (.loopG (compCode P loc fg nt inR c)) F H = some (ex, F', H') → Rel E nt g F H a.tmps w → Lps P E g H w → base ≤ w.heap.size → DfOk E base g w a.defers →
    ∀ (b : Frame) (k : List Item) (cs : List Frame), b.roundOf = ro → ∃ e a' w', PostR E nt base g H w ex F' H' e a' w' ∧ ArrivesIn (Machine.fenced P (Fc ro)) P (lone (b.atR a (.code c :: .inLoop c :: k)) cs w) b k cs e a' w'
theorem DfOk.cut {base : Nat} {ds : List Deferred} (h : DfOk E base g w ds) (hr : ∀ b, RngR g' b → RngR g b) (hb : g'.β = g.β) (hi : g'.I = g.I) : DfOk E base g' w ds := by
  obtain ⟨l, h1, h2, h3, h4⟩ := h
  refine ⟨l, h1, h2, fun r hr' => ⟨(h3 r hr').1, ?_⟩, h4⟩
  obtain ⟨k1, k2, k3, k4⟩ := (h3 r hr').2
  exact ⟨k1, fun hh => k2 (hr _ hh), fun ⟨s, e⟩ => k3 ⟨s, by rw [← hb]; exact e⟩, fun hh => k4 (by rw [← hi]; exact hh)⟩

def noGo (Q : Exit → Act → World → Prop) : Exit → Act → World → Prop
  | .goto _, _, _ => False
  | e, a, w => Q e a w
/-- A scope, if no jump goes within it. -/
theorem wpIn_scope {ro : Option Nat} {c : Code} {Q : Exit → Act → World → Prop} (h : c.wpIn (Fc ro) 0 P (noGo Q) a w) : (Code.scope c).wpIn (Fc ro) 0 P Q a w := by
  intro b k cs hro hb hr
  have h0 : (lone (b.atR a (.code (.scope c) :: k)) cs w).fenced P (Fc ro) := fenced_calm hb hr rfl
  have s0 : step P (lone (b.atR a (.code (.scope c) :: k)) cs w) = .next (lone (b.atR a (.code c :: .inScope c :: k)) cs w) := step_lone_go (by simp [stepG, stepG.exec, Frame.atR])
  have s1 : ∀ a w, step P (lone (b.atR a (.inScope c :: k)) cs w) = .next (lone (b.atR a k) cs w) := fun a w => step_lone_go (by simp [stepG, stepG.exec, Frame.atR])
  obtain ⟨e, a1, w1, hq, harr⟩ := h b (.inScope c :: k) cs hro hb hr
  cases e with
  | normal => exact ⟨.normal, a1, w1, hq, .head h0 s0 (StepsIn.trans harr (.one (fenced_calm hb hr rfl) (s1 _ _)))⟩
  | exit id =>
    have hx : exitTo id (.inScope c :: k) = exitTo id k := by simp [exitTo]
    exact ⟨.exit id, a1, w1, hq, fun k' hk => .head h0 s0 (harr.1 k' (by rw [hx]; exact hk)), fun hr' hk => let ⟨k1, h1, h2⟩ := harr.2 hr' (by rw [hx]; exact hk); ⟨k1, h1, .head h0 s0 h2⟩⟩
  | goto l => exact hq.elim
  | ret => exact ⟨.ret, a1, w1, hq, ArrivesIn.of_steps (e := .ret) (k := k) (.one h0 s0) harr⟩
  | panic ch => exact ⟨.panic ch, a1, w1, hq, ArrivesIn.of_steps (e := .panic ch) (k := k) (.one h0 s0) harr⟩
  | outgrown => exact ⟨.outgrown, a1, w1, hq, ArrivesIn.of_steps (e := .outgrown) (k := k) (.one h0 s0) harr⟩

theorem CallsDIn.mono' {F : Fence} {n : Nat} {f : FuncId} {args : Array Value} {u : FrameMode} {R R' : Ending → FrameMode → World → Prop} (h : CallsDIn F n P f args u w R) (hr : ∀ e u w, R e u w → R' e u w) : CallsDIn F n P f args u w R' :=
  ⟨h.1, fun c cs hu hroom => let ⟨e, u', w', fr, r, s⟩ := h.2 c cs hu hroom; ⟨e, u', w', fr, hr _ _ _ r, s⟩⟩
/-- The marks, one after the other. -/
theorem marks_go (hE : EnvOk P E) {nt : Nat} {g0 g2 : Gh} {F2 : Frm} {H2 : Hp} {tmps : Array Value} {fn : Func} {R : Ending → World → Prop} (ψ : World → World) (good : World → Prop)
    (hψ : ∀ w1 r, FreeB g2 w1 r (.deferred (some [])) → good w1 → (ψ w1).heap[r]? = some (.deferred (some [])) ∧ (ψ w1).putObj r (.deferred none) = ψ (w1.putObj r (.deferred none)) ∧ good (w1.putObj r (.deferred none)))
    (hend : ∀ w1, Rel E nt g2 F2 H2 tmps w1 → Nx g0 g2 H H2 w w1 → good w1 → ∃ v, (results fn tmps).run P (ψ w1) = .ok v (ψ w1) ∧ R (.returned v) (ψ w1)) :
    ∀ (l : List (Option Nat × Deferred)) (w1 : World), (l.filterMap (·.1)).Nodup → (∀ r ∈ l.filterMap (·.1), w.heap.size ≤ r ∧ FreeB g2 w1 r (.deferred (some []))) → (∀ x ∈ l, x.1 = none → NoopD E x.2) → Rel E nt g2 F2 H2 tmps w1 → Nx g0 g2 H H2 w w1 → good w1 →
      LeavesInM (Fc none) 0 P fn tmps R (l.map toD) .returning (ψ w1)
  | [], w1, _, _, _, hr, hn, hg => by
    simp only [List.map_nil, LeavesInM, LeavesIn]
    exact hend w1 hr hn hg
  | (some r, d) :: l, w1, hd, hf, hx, hr, hn, hg => by
    rw [List.filterMap_cons] at hd hf
    dsimp only at hd hf
    obtain ⟨hb, hF⟩ := hf r (by simp)
    obtain ⟨e1, e2, e3⟩ := hψ w1 r hF hg
    simp only [List.map_cons, LeavesInM]
    refine ⟨by simp, .inl ⟨r, _, rfl, run_takeDeferred e1, ?_⟩⟩
    rw [e2]
    have hA := hF.agr (o' := .deferred none) (by simp [Obj.rec])
    rw [List.nodup_cons] at hd
    exact marks_go hE ψ good hψ hend l _ hd.2 (fun r' hr' => ⟨(hf r' (List.mem_cons_of_mem _ hr')).1, (hf r' (List.mem_cons_of_mem _ hr')).2.other (fun e => hd.1 (e ▸ hr'))⟩) (fun x hx' => hx x (List.mem_cons_of_mem _ hx')) (hr.agr hA) (hn.later hA hr.imm fun b hb' => World.putObj_heap_other (by omega)) e3
  | (none, d) :: l, w1, hd, hf, hx, hr, hn, hg => by
    rw [List.filterMap_cons] at hd hf
    dsimp only at hd hf
    obtain ⟨n, args, hde, hdn⟩ := hx (none, d) (by simp) rfl
    dsimp only at hde
    subst hde
    simp only [List.map_cons, LeavesInM]
    have hcall := hE.dn n hdn args (ψ w1)
    refine ⟨by simp, .inr ⟨fun h => by simp [Fence.wide] at h, .func n, #[], n, args, rfl, ?_, fun _ _ => trivial, CallsDIn.mono' hcall.2 fun e u w' he => ?_⟩⟩
    · have : (invoke (Target.fn (.func n) #[]) args).run P (ψ w1) = (callFunc n args).run P (ψ w1) := by simp [invoke]
      exact this.trans hcall.1
    · obtain ⟨rfl, rfl, v, rfl⟩ := he
      exact marks_go hE ψ good hψ hend l w1 hd hf (fun x hx' => hx x (List.mem_cons_of_mem _ hx')) hr hn hg

theorem Lps.enter {E : Env} (h : Lps P E g H w) : Lps P E { g with β := fun _ => none } H w := by
  have hon : On g { g with β := fun _ => none } H H w w := ⟨fun _ x => ⟨x, rfl⟩, fun _ hb x => ⟨hb, x, rfl, rfl, .inr ⟨rfl, rfl⟩⟩, fun _ cur _ x => ⟨cur, x, rfl⟩, rfl⟩
  refine ⟨fun k c l hc hl => ?_, h.inj, h.top⟩
  obtain ⟨r, nt, hr⟩ := h.loop k c l hc hl
  exact ⟨r, nt, ⟨hr.free.at_, hr.free.rng, fun ⟨s, e⟩ => by simp at e, hr.free.imm⟩, hr.ready, hr.none_, hr.ps, hr.lt, hr.code, hr.size, fun s fv hs => by
    obtain ⟨p, e, hp⟩ := hr.frame s fv hs
    exact ⟨p, e, VR_on hon p _ hp⟩⟩

theorem inline_sound (hE : EnvOk P E) {n : Nat} (hx : ExecOk P E n) : InlineOk P E (inline E (n + 1)) := by
  intro f args H r H' h nt g F tmps w vs hr hL hv
  simp only [inline] at h
  split at h
  · rename_i x he
    cases h
    exact hE.eff.ok f args H r H' he nt g F tmps w vs hr hL hv
  split at h
  · rename_i fn hfn
    obtain ⟨fu, loc, fg, hfu, hcomp⟩ := hE.fns f fn hfn
    unfold compFn at hcomp
    split at hcomp
    · rename_i c rs hb hrs
      split at hcomp
      · cases hcomp
      · rename_i hname
        cases hcomp
        simp only [] at h
        split at h
        · have hbase := hr.enter hv fu.ntmps
          have hcf : (callFunc f vs.toArray).run P w = .ok (.enter f vs.toArray) w := by
            have hname' : ¬ fu.name = "runtime.NumGoroutine" := by simpa using hname
            simp [callFunc, hfu, hname', hb]
          unfold CallR
          rw [hcf]
          simp only []
          have fin : ∀ ex F2 H2, exec E n (compCode P loc fg fu.ntmps false c) (frame0 0 args) H = some (ex, F2, H2) → (ex = .norm ∨ ex = .ret) → (∃ ps, ressOf F2 H2 rs = some ps ∧ packed ps = r ∧ H2 = H') →
              Calls P f vs.toArray w (fun e w'' => match e with | .returned v => ∃ g', Nx g g' H H' w w'' ∧ Rel E nt g' F H' tmps w'' ∧ VR g' H' w'' r v | _ => False) := by
            intro ex F2 H2 he hex ⟨ps, hps, hpk, e2⟩
            subst hpk; subst e2
            have hbody := hx none false loc fg fu.ntmps w.heap.size c _ _ _ ⟨vs.toArray ++ Array.replicate (fu.ntmps - vs.toArray.size) undef, []⟩ w ex F2 H2 (fun _ => rfl) he hbase hL.enter (Nat.le_refl _) DfOk.nil
            refine callsIn_fc.1 (callsIn_of_wp_marks (F := Fc none) (n := 0) hfu hb trivial (wpIn_mono hbody fun e a' w' hp => ?_))
            have hp' : ExR ex e ∧ ∃ g', Nx { g with β := fun _ => none } g' H H2 w w' ∧ Rel E fu.ntmps g' F2 H2 a'.tmps w' ∧ DfOk E w.heap.size g' w' a'.defers := by
              rcases hex with rfl | rfl <;> exact hp
            obtain ⟨h1, g2, h3, h4, rs, h5, h6, h7, h8⟩ := hp'
            have key : LeavesInM (Fc none) 0 P fu a'.tmps (fun e w'' => match e with | .returned v => ∃ g', Nx g g' H H2 w w'' ∧ Rel E nt g' F H2 tmps w'' ∧ VR g' H2 w'' (packed ps) v | _ => False) a'.defers .returning w' := by
              rw [h5]
              refine marks_go hE (nt := fu.ntmps) (g0 := { g with β := fun _ => none }) (g2 := g2) (F2 := F2) (H := H) (H2 := H2) (w := w) (fun x => x) (fun _ => True) (fun w1 r hf _ => ⟨hf.at_, rfl, trivial⟩) (fun w1 k1 k2 _ => ?_) rs w' h6 h7 h8 h4 h3 trivial
              obtain ⟨v, hv1, hv2⟩ := results_sound (P := P) k1 hrs hps
              obtain ⟨r3, n3⟩ := hr.back k2 k1
              have hon2 : On g2 { g2 with β := g.β } H2 H2 w1 w1 := ⟨fun _ x => ⟨x, rfl⟩, fun _ hb x => ⟨hb, x, rfl, rfl, .inr ⟨rfl, rfl⟩⟩, fun _ cur _ x => ⟨cur, x, rfl⟩, rfl⟩
              exact ⟨v, hv1, _, n3, r3, VR_on hon2 _ _ hv2⟩
            rcases hex with rfl | rfl <;> cases e <;> simp only [ExR] at h1 <;> exact key
          split at h
          · rename_i F2 H2 he
            split at h
            · rename_i ps hps
              cases h
              exact fin _ F2 _ he (.inl rfl) ⟨ps, hps, rfl, rfl⟩
            · cases h
          · rename_i F2 H2 he
            split at h
            · rename_i ps hps
              cases h
              exact fin _ F2 _ he (.inr rfl) ⟨ps, hps, rfl, rfl⟩
            · cases h
          · cases h
        · cases h
    · cases hcomp
  · cases h


theorem un_inv {loc : List Nat} {op : UnOp} {x' : Opd} (h : compOp P loc o = .un op x') : ∃ t x, o.op = .unOp op t x ∧ opd x = some x' := by
  unfold compOp at h
  cases ho : o.op <;> rw [ho] at h <;> simp only [] at h
  case unOp op2 t x =>
    split at h
    · rename_i a hx
      cases h
      exact ⟨t, x, rfl, hx⟩
    · cases h
  all_goals (try unfold compBin at h)
  all_goals (try unfold compBuiltin at h)
  all_goals (repeat' split at h)
  all_goals first | cases h | skip

theorem range_take {α : Type} (l : List α) : ∀ (k : Nat), k ≤ l.length → (List.range k).filterMap (l[·]?) = l.take k
  | 0, _ => by simp
  | k + 1, hk => by
    rw [List.range_succ, List.filterMap_append, range_take l k (by omega), List.take_add_one]
    congr 1

/-- A region. -/
theorem reg_sound {ro : Option Nat} {base n : Nat} (hE : EnvOk P E) (ihi : InlineOk P E (inline E n)) (hdraw : ∀ call, InlineOk P E call → DrawOk P E call) {loc : List Nat} {fg : Nat → List Nat} {inR : Bool} {id : Nat} {ops : Array Oper} {draw : Bool} {ex : Ex} (hro : inR = false → ro = none)
    (h : exec E (n + 1) (compReg P loc fg nt inR id ops draw) F H = some (ex, F', H')) (hr : Rel E nt g F H a.tmps w) (hL : Lps P E g H w) (hdf : DfOk E base g w a.defers) : ex = .norm ∧ (Code.region id ops draw).wpIn (Fc ro) 0 P (PostR E nt base g H w .norm F' H') a w := by
  unfold compReg at h
  cases hin : (inR && hasD ops.toList) with
  | true => rw [hin] at h; simp [exec] at h
  | false =>
  rw [hin] at h
  simp only [Bool.false_eq_true, if_false] at h
  have hrd : hasD ops.toList = true → ro = none := fun hh => by
    cases inR with
    | false => exact hro rfl
    | true => rw [hh] at hin; cases hin
  split at h
  · rename_i l hl
    split at h
    · rename_i hds
      cases draw with
      | true =>
        simp only [if_true] at h
        split at h
        · rename_i heb
          simp only [exec] at h
          split at h
          · rename_i F1 H1 hrun
            cases h
            exact ⟨rfl, wpIn_mono (hdraw _ ihi ro nt base g F H a w loc ops l F1 _ id hrd hl hds heb hrun hr hL hdf) fun e a' w' hp => hp.fdels⟩
          · cases h
        · simp [exec] at h
      | false =>
        simp only [Bool.false_eq_true, if_false] at h
        simp only [exec, runReg] at h
        split at h
        · rename_i F1 H1 hrun
          cases h
          exact ⟨rfl, wpIn_mono (region_sound hE ihi hl hds hrd hrun hr hL hdf) fun e a' w' hp => hp.fdels⟩
        · cases h
    · simp [exec] at h
  · simp [exec] at h

theorem cond_ret_sound {ro : Option Nat} {base n e : Nat} {ex : Ex} (h : exec E n (.cond (.t e) .ret .skip) F H = some (ex, F', H')) (hr : Rel E nt g F H a.tmps w) (hdf : DfOk E base g w a.defers) : (Code.cond (.tmp e) .ret .skip).wpIn (Fc ro) 0 P (PostR E nt base g H w ex F' H') a w := by
  cases n with
  | zero => simp [exec] at h
  | succ n =>
    simp only [exec] at h
    cases n with
    | zero =>
      split at h
      · simp [exec] at h
      · simp [exec] at h
      · cases h
    | succ n =>
      split at h
      · rename_i hb
        have hv := evV_sound hr (x := .tmp e) rfl hb
        simp only [VR] at hv
        simp only [exec, Option.some.injEq, Prod.mk.injEq] at h
        obtain ⟨rfl, rfl, rfl⟩ := h
        exact wpIn_cond_true hv (wpIn_ret ⟨trivial, g, Nx.refl g H w, hr, hdf⟩)
      · rename_i hb
        have hv := evV_sound hr (x := .tmp e) rfl hb
        simp only [VR] at hv
        simp only [exec, Option.some.injEq, Prod.mk.injEq] at h
        obtain ⟨rfl, rfl, rfl⟩ := h
        exact wpIn_cond_false hv (wpIn_skip ⟨trivial, g, Nx.refl g H w, hr, hdf⟩)
      · cases h
theorem plain_sound {ro : Option Nat} {base n : Nat} (hE : EnvOk P E) (ihi : ∀ m, m < n → InlineOk P E (inline E m)) (hdraw : ∀ call, InlineOk P E call → DrawOk P E call) {loc : List Nat} {fg : Nat → List Nat} {inR : Bool} {id e : Nat} {ops : Array Oper} {ex : Ex} (hro : inR = false → ro = none)
    (h : exec E n (.seq (compReg P loc fg nt inR id ops false) (.cond (.t e) .ret .skip)) F H = some (ex, F', H')) (hr : Rel E nt g F H a.tmps w) (hL : Lps P E g H w) (hdf : DfOk E base g w a.defers) : (Code.seq (.region id ops false) (.cond (.tmp e) .ret .skip)).wpIn (Fc ro) 0 P (PostR E nt base g H w ex F' H') a w := by
  cases n with
  | zero => simp [exec] at h
  | succ n =>
    cases n with
    | zero => simp [exec] at h
    | succ n =>
      rw [exec] at h
      split at h
      · rename_i F1 H1 h1
        obtain ⟨_, h2⟩ := reg_sound (ro := ro) hE (ihi n (by omega)) hdraw hro h1 hr hL hdf
        refine wpIn_seq (wpIn_mono h2 fun e1 a1 w1 hp => ?_)
        obtain ⟨hp1, g1, n1, r1, d1⟩ := hp
        cases e1 <;> simp only [ExR] at hp1
        exact wpIn_mono (cond_ret_sound h r1 d1) fun e' a' w' hq => hq.trans n1
      · rename_i hne
        obtain ⟨rfl, _⟩ := reg_sound (ro := ro) hE (ihi n (by omega)) hdraw hro h hr hL hdf
        exact absurd h (hne _ _)

/-- A call of a yield, behind which the function returns if it is denied. -/
theorem yret_sound {ro : Option Nat} {base n : Nat} (hE : EnvOk P E) (ihi : ∀ m, m ≤ n → InlineOk P E (inline E m)) (hdraw : ∀ call, InlineOk P E call → DrawOk P E call) {loc : List Nat} {fg : Nat → List Nat} {inR : Bool} {id e : Nat} {ops : Array Oper} {ex : Ex} {c' : ACode} (hro : inR = false → ro = none)
    (hy : yretOf P loc fg nt inR id ops (.seq (compReg P loc fg nt inR id ops false) (.cond (.t e) .ret .skip)) e = some c')
    (h : exec E (n + 1) c' F H = some (ex, F', H')) (hr : Rel E nt g F H a.tmps w) (hL : Lps P E g H w) (hdf : DfOk E base g w a.defers) : (Code.seq (.region id ops false) (.cond (.tmp e) .ret .skip)).wpIn (Fc ro) 0 P (PostR E nt base g H w ex F' H') a w := by
  unfold yretOf at hy
  cases hin : (inR && hasD ops.toList) with
  | true => rw [hin] at hy; simp at hy
  | false =>
  rw [hin] at hy
  simp only [Bool.false_eq_true, if_false] at hy
  have hrd : hasD ops.toList = true → ro = none := fun hh => by
    cases inR with
    | false => exact hro rfl
    | true => rw [hh] at hin; cases hin
  split at hy
  · rename_i l hl
    split at hy
    · rename_i hds
      split at hy
      · rename_i d y args e' d' hdrop
        split at hy
        · rename_i hde
          obtain ⟨rfl, rfl, hne⟩ := hde
          cases hy
          simp only [exec] at h
          split at h
          · rename_i F1 H1 hpre
            split at h
            · rename_i k vs hfv hav
              obtain ⟨hlen, hget⟩ := compOps_get _ _ hl
              have hlen' : l.length = ops.size := by simpa using hlen
              have h2 : 2 ≤ l.length := by
                have := congrArg List.length hdrop
                simp only [List.length_drop, List.length_cons, List.length_nil] at this
                omega
              obtain ⟨K, hK⟩ : ∃ K, ops.size = K + 2 := ⟨ops.size - 2, by omega⟩
              have hlK : l.length - 2 = K := by omega
              rw [hlK] at hdrop hpre
              have g0 : l[K]? = some ⟨some d', .call y args, none⟩ := by
                have := congrArg (·[0]?) hdrop
                simpa [List.getElem?_drop] using this
              have g1 : l[K + 1]? = some ⟨some e', .un .not (.t d'), none⟩ := by
                have := congrArg (·[1]?) hdrop
                simpa [List.getElem?_drop] using this
              have o0 : ops[K]? = some ops[K] := by simp [hK]
              have o1 : ops[K + 1]? = some ops[K + 1] := by simp [hK]
              have o0' : ops.toList[K]? = some ops[K] := by simp [hK]
              have o1' : ops.toList[K + 1]? = some ops[K + 1] := by simp [hK]
              obtain ⟨gd0, q0, u0⟩ := hget K _ o0'
              obtain ⟨gd1, q1, u1⟩ := hget (K + 1) _ o1'
              rw [g0] at q0; rw [g1] at q1
              simp only [Option.some.injEq, AOper.mk.injEq] at q0 q1
              obtain ⟨k1, k2, rfl⟩ := q0
              obtain ⟨k3, k4, rfl⟩ := q1
              have hd' : d' < nt := dstsB_get _ hds K _ o0' d' k1.symm
              have he' : e' < nt := dstsB_get _ hds (K + 1) _ o1' e' k3.symm
              have noG : ∀ {o : Oper}, GuardR ops o none → o.guard = none := fun hg => by
                rcases hg with ⟨x, _⟩ | ⟨_, _, _, _, _, x⟩
                · exact x
                · cases x
              obtain ⟨cl, f, f', as', c1, c2, c3, c4, c5⟩ := isCall_inv (P := P) (loc := loc) (o := ops[K]) (by rw [← k2]; rfl)
              rw [← k2] at c5
              cases c5
              obtain ⟨t, x, x1, x2⟩ := un_inv (P := P) (loc := loc) (o := ops[K + 1]) k4.symm
              refine wpIn_seq (wpIn_region ?_)
              rw [hK, show List.range (K + 2) = List.range K ++ [K, K + 1] by rw [List.range_succ, List.range_succ]; simp]
              refine runOps_sound hE (ihi n (Nat.le_refl _)) hl hds hrd (List.range K) g F H a w (fun i hi => by rw [List.mem_range] at hi; omega) hr hL (F' := F1) (H' := H1) (by rw [range_take _ _ (by omega)]; exact hpre) fun a1 w1 g1' df1 n1 r1 => ?_
              rw [wpOpsIn]
              simp only [o0]
              rw [if_pos (by simp [Region.wanted, noG u0])]
              refine ⟨fun _ _ => trivial, ?_⟩
              rw [Oper.semAt_eq _ _ _ (fun c' e => by rw [c1] at e; cases e)]
              have hf := evV_sound r1 c3 hfv
              simp only [VR, VRs] at hf
              obtain ⟨fs, cs, hfe, rfl, rfl, hk⟩ := hf
              simp only [Gh.okF] at hk
              obtain ⟨lp, hlp⟩ := Option.isSome_iff_exists.1 hk
              have hfe : a1.eval f = .func (.yield lp) #[] #[] := by rw [hfe]; simp only [Gh.tr]; rw [hlp]; rfl
              have hL1 := hL.nx n1
              have key : ∀ (o : Option Nat) (H2 : Hp), E.yl E.yn k vs H1 = some (o, H2) → (∀ v w2, RdPost E nt g1' F1 H1 a1.tmps w1 o H2 lp (.returned v) w2 → (Code.cond (.tmp e') .ret .skip).wpIn (Fc ro) 0 P (PostR E nt base g H w ex F' H') ((a1.put (some d') v).put (some e') (.bool o.isSome)) w2) →
                  Oper.uponIn (Fc ro) 0 P ops[K] a1 (wpOpsIn (Fc ro) 0 P ops (Exit.then ((Code.cond (.tmp e') .ret .skip).wpIn (Fc ro) 0 P (PostR E nt base g H w ex F' H')) (PostR E nt base g H w ex F' H')) [K + 1]) (Exit.then ((Code.cond (.tmp e') .ret .skip).wpIn (Fc ro) 0 P (PostR E nt base g H w ex F' H')) (PostR E nt base g H w ex F' H')) ((execOp a1.eval ops[K]).run P w1) := by
                intro o H2 ho hfin
                obtain ⟨fn, t1, as1, bd, h1, h2⟩ := hE.yl E.yn k vs H1 o H2 ho (Nat.le_refl _) nt g1' F1 a1.tmps w1 _ lp r1 (hL1.env rfl rfl) hlp (evs_sound r1 _ _ _ c4 hav)
                have hargs : (cl.args.map a1.eval) = (cl.args.toList.map a1.eval).toArray := by rw [← Array.toList_map]
                have hrun : (execOp a1.eval ops[K]).run P w1 = .ok (.round lp fn t1 as1 bd) w1 := by
                  rw [← h1]
                  simp [execOp, c1, resolve, c2, hfe, Deferred.ofValue, invoke]
                  rw [hargs]
                rw [hrun]
                simp only [Oper.uponIn]
                refine ⟨fun h => by simp [Fence.wide] at h, (h2 ro).mono fun en w2 he => ?_⟩
                cases en with
                | returned v =>
                  simp only [← k1, wpOpsIn, o1]
                  rw [if_pos (by simp [Region.wanted, noG u1])]
                  refine ⟨fun _ _ => trivial, ?_⟩
                  rw [Oper.semAt_eq _ _ _ (fun c' e => by rw [x1] at e; cases e)]
                  have hv : v = .bool (!o.isSome) := by
                    cases o with
                    | none => exact he.1
                    | some i => exact he.1
                  have r2 : Rel E nt g1' (fset F1 d' (.v (.bool (!o.isSome)))) H1 (a1.tmps.setIfInBounds d' v) w1 := r1.putV hd' (by rw [hv]; exact VR_bool _)
                  have hx : (a1.put (some d') v).eval x = .bool (!o.isSome) := by
                    have := evV_sound (a := a1.put (some d') v) (by exact r2) x2 (p := .bool (!o.isSome)) (by simp [evV, ev, fget_fset])
                    simpa only [VR] using this
                  have hrun2 : (execOp (a1.put (some d') v).eval ops[K + 1]).run P w2 = .ok (.value (.bool o.isSome)) w2 := by
                    simp only [execOp, x1, hx, Op.unary, Bool.not_not]; rfl
                  rw [hrun2]
                  simp only [Oper.uponIn, ← k3]
                  exact hfin v w2 he
                | panicked _ => exact he.elim
                | outgrown => exact he.elim
              have tm : ∀ (v : Value) (b : Bool), ((a1.put (some d') v).put (some e') (.bool b)).tmps = (a1.tmps.setIfInBounds d' v).setIfInBounds e' (.bool b) := fun v b => rfl
              have dfx : ∀ (v : Value) (b : Bool), ((a1.put (some d') v).put (some e') (.bool b)).defers = a1.defers := fun v b => rfl
              split at h
              · rename_i H2 ho
                cases h
                refine key none H' ho fun v w2 he => ?_
                obtain ⟨rfl, g2, n2, r2⟩ := he
                have r4 : Rel E nt g2 (fset (fset F1 d' (.v (.bool true))) e' (.v (.bool false))) H' ((a1.tmps.setIfInBounds d' (.bool true)).setIfInBounds e' (.bool false)) w2 := (r2.putV hd' (VR_bool _)).putV he' (VR_bool _)
                have hv := evV_sound (a := ((a1.put (some d') (.bool true)).put (some e') (.bool false))) (x := .tmp e') r4 rfl (p := .bool false) (by simp [evV, ev, fget_fset])
                simp only [VR] at hv
                refine wpIn_cond_false hv (wpIn_skip (PostR.fdels ⟨trivial, g2, n1.trans n2, r4, ?_⟩))
                rw [dfx]
                exact (hdf.nx (n1.trans n2)).go df1
              · rename_i i H2 ho
                cases h
                refine key (some i) H' ho fun v w2 he => ?_
                obtain ⟨rfl, g2, w3, r, n2, r2, f2, rfl⟩ := he
                have r4 : Rel E nt g2 (fset (fset F1 d' (.v (.bool false))) e' (.v (.bool true))) H' ((a1.tmps.setIfInBounds d' (.bool false)).setIfInBounds e' (.bool true)) w3 := (r2.putV hd' (VR_bool _)).putV he' (VR_bool _)
                have hv := evV_sound (a := ((a1.put (some d') (.bool false)).put (some e') (.bool true))) (x := .tmp e') r4 rfl (p := .bool true) (by simp [evV, ev, fget_fset])
                simp only [VR] at hv
                refine wpIn_cond_true hv (wpIn_ret ⟨rfl, g2, w3, lp, r, by rw [← n1.on.lam]; exact hlp, n1.trans n2, r4, f2, ?_, rfl⟩)
                rw [dfx]
                exact (hdf.nx (n1.trans n2)).go df1
              · cases h
            · exact plain_sound hE (fun m hm => ihi m (by omega)) hdraw hro h hr hL hdf
          · cases h
        · cases hy
      · cases hy
    · cases hy
  · cases hy

/-! The loops' environments. -/
theorem Lps.pop {E : Env} {c : LCtx} {h : Nat → List PV → Hp → Option (Option Nat × Hp)} {y : Nat} (ht : ∀ k, E.yn ≤ k → E.ctx k = none) (hL : Lps P ((E.push c h).ats y) g H w) : Lps P (E.ats y) g H w := by
  have hc : ∀ k x, E.ctx k = some x → ((E.push c h).ats y).ctx k = some x := by
    intro k x e
    have hk : k ≠ E.yn := fun e2 => by rw [ht k (by omega)] at e; cases e
    show (if k = E.yn then some c else E.ctx k) = some x
    rw [if_neg hk]; exact e
  refine ⟨fun k x l e hl => hL.loop k x l (hc k x e) hl, fun k k' l h1 h2 h3 h4 => ?_, hL.top⟩
  obtain ⟨x1, e1⟩ := Option.isSome_iff_exists.1 h1
  obtain ⟨x2, e2⟩ := Option.isSome_iff_exists.1 h2
  exact hL.inj k k' l (by rw [hc k x1 e1]; rfl) (by rw [hc k' x2 e2]; rfl) h3 h4
theorem Lps.putAt {E : Env} {l : Nat} {o o' : Obj} (hL : Lps P E g H w) (hF : FreeB g w l o) (ho : Obj.rec o) (hi : ∀ b, g.I b → b < w.heap.size) (hne : ∀ k x, E.ctx k = some x → g.lam k ≠ some l) : Lps P E g H (w.putObj l o') := by
  refine ⟨fun k c l' hc hl => ?_, hL.inj, hL.top⟩
  obtain ⟨r, nt, hr⟩ := hL.loop k c l' hc hl
  have hon := (hF.agr (o' := o') ho).on (H := H) hi
  exact ⟨r, nt, hr.free.other (fun e => hne k c hc (e ▸ hl)), hr.ready, hr.none_, hr.ps, hr.lt, hr.code, hr.size, fun s fv hs => by
    obtain ⟨p, e, hp⟩ := hr.frame s fv hs
    exact ⟨p, e, VR_on hon p _ hp⟩⟩
theorem DfOk.other {base l : Nat} {ds : List Deferred} {r : Loop} {o' : Obj} (h : DfOk E base g w ds) (hF : FreeB g w l (.loop r)) : DfOk E base g (w.putObj l o') ds := by
  obtain ⟨rs, h1, h2, h3, h4⟩ := h
  refine ⟨rs, h1, h2, fun b hb => ⟨(h3 b hb).1, (h3 b hb).2.other fun e => ?_⟩, h4⟩
  have := (h3 b hb).2.at_
  rw [e, hF.at_] at this
  cases this

theorem fget_noBox : ∀ (F : Frm) (s : Nat) (fv : FV), fget (noBox F) s = some fv → ∃ p, fv = .v p ∧ fget F s = some fv
  | [], s, fv, h => by simp [noBox, fget] at h
  | (k, x) :: r, s, fv, h => by
    have more : fget (fdel (noBox r) k) s = some fv → ∃ p, fv = .v p ∧ fget ((k, x) :: r) s = some fv := fun h => by
      rw [fget_fdel] at h
      split at h
      · cases h
      · rename_i e
        obtain ⟨p, e1, e2⟩ := fget_noBox r s fv h
        exact ⟨p, e1, by simp only [fget]; rw [if_neg (fun e3 => e e3.symm)]; exact e2⟩
    cases x with
    | v p =>
      simp only [noBox, fget] at h
      split at h
      · rename_i e
        cases h
        exact ⟨p, rfl, by simp [fget, e]⟩
      · rename_i e
        obtain ⟨q, e1, e2⟩ := fget_noBox r s fv h
        exact ⟨q, e1, by simp only [fget]; rw [if_neg e]; exact e2⟩
    | _ => exact more h

/-- The frame of a round: values alone. -/
def FrV (g : Gh) (H : Hp) (w : World) (F : Frm) (tmps : Array Value) : Prop := ∀ s fv, fget F s = some fv → ∃ p, fv = .v p ∧ VR g H w p (tmps.getD s undef)
theorem setPs_sound {nt : Nat} : ∀ (ps : List Nat) (F F1 : Frm) (xs : List PV) (vs : List Value) (tmps : Array Value), setPs F ps xs = some F1 → VRs g H w xs vs → (∀ p ∈ ps, p < nt) → nt ≤ tmps.size → FrV g H w F tmps →
    ps.length = vs.length ∧ nt ≤ ((ps.zip vs).foldl (fun (t : Array Value) (x : Nat × Value) => t.setIfInBounds x.1 x.2) tmps).size ∧ FrV g H w F1 ((ps.zip vs).foldl (fun (t : Array Value) (x : Nat × Value) => t.setIfInBounds x.1 x.2) tmps)
  | [], F, F1, [], vs, tmps, h, hv, _, hs, hF => by
    simp only [setPs, Option.some.injEq] at h
    simp only [VRs] at hv
    subst h; subst hv
    exact ⟨rfl, by simpa using hs, by simpa using hF⟩
  | [], F, F1, x :: xs, vs, tmps, h, _, _, _, _ => by simp [setPs] at h
  | s :: ps, F, F1, [], vs, tmps, h, _, _, _, _ => by simp [setPs] at h
  | s :: ps, F, F1, x :: xs, vs, tmps, h, hv, hp, hs, hF => by
    simp only [setPs] at h
    simp only [VRs] at hv
    obtain ⟨v, vr, rfl, h1, h2⟩ := hv
    have hlt : s < tmps.size := Nat.lt_of_lt_of_le (hp s (by simp)) hs
    obtain ⟨k1, k2, k3⟩ := setPs_sound ps (fset F s (.v x)) F1 xs vr (tmps.setIfInBounds s v) h h2 (fun p hp' => hp p (by simp [hp'])) (by simpa using hs) (fun s' fv e => by
      rw [fget_fset] at e
      by_cases e2 : s' = s
      · subst e2
        simp only [if_true, Option.some.injEq] at e
        subst e
        exact ⟨x, rfl, by rw [getD_set_self _ _ _ hlt]; exact h1⟩
      · rw [if_neg e2] at e
        obtain ⟨p, e3, e4⟩ := hF s' fv e
        exact ⟨p, e3, by rw [getD_set_other _ _ _ _ e2]; exact e4⟩)
    exact ⟨by simp [k1], by simpa using k2, by simpa using k3⟩
theorem Rel.round {E : Env} {nt nt' : Nat} {F1 : Frm} {tmps1 : Array Value} (h : Rel E nt g F H tmps w) (hs : nt' ≤ tmps1.size) (hF : FrV g H w F1 tmps1) : Rel E nt' { g with β := fun _ => none } F1 H tmps1 w := by
  have hon : On g { g with β := fun _ => none } H H w w := ⟨fun _ x => ⟨x, rfl⟩, fun _ hb x => ⟨hb, x, rfl, rfl, .inr ⟨rfl, rfl⟩⟩, fun _ cur _ x => ⟨cur, x, rfl⟩, rfl⟩
  refine { size := hs, frame := fun s fv e => ?_, heap := fun id hb e => ?_, dist := h.dist, rsome := h.rsome, bdist := fun s s' b e => by simp at e, brho := fun s b id o e => by simp at e, bimm := fun s b e => by simp at e, imm := h.imm, glob := h.glob }
  · obtain ⟨p, rfl, hp⟩ := hF s fv e
    simp only [FRel]
    exact VR_on hon p _ hp
  · obtain ⟨b, o, hk⟩ := h.heap id hb e
    exact ⟨b, o, BlkR_on hon hk rfl rfl (fun x => x)⟩

/-- One round. -/
theorem round_sound {n y : Nat} {c : LCtx} {o : Option Nat} {h : Nat → List PV → Hp → Option (Option Nat × Hp)} {as : List PV} {vs : List Value} {l : Nat} (hE : EnvOk P E) (_ : E.yn + 1 ≤ y) (hx : ExecOk P (E.ats y) n)
    (hrun : (match setPs c.F c.ps as with
                | some F1 => (match exec (E.ats y) n c.as F1 H with
                  | some (.norm, F2, H2) => (match exec (E.ats y) n c.bd F2 H2 with
                    | some (.norm, _, H3) => some (none, H3)
                    | some (.exit i, _, H3) => some (some i, H3)
                    | _ => none)
                  | _ => none)
                | none => none) = some (o, H'))
    (hr : Rel (E.push c h) nt g F H tmps w) (hL : Lps P ((E.push c h).ats y) g H w) (hl : g.lam E.yn = some l) (hv : VRs g H w as vs) :
    ∃ (fn : FuncId) (tmps1 : Array Value) (assign body : Code), (Instr.yield l vs.toArray).run P w = .ok (.round l fn tmps1 assign body) w ∧
      ∀ ro, RoundIn (Fc ro) 0 P l fn tmps1 assign body w (RdPost (E.push c h) nt g F H tmps w o H' l) := by
  obtain ⟨r, nt', hR⟩ := hL.loop E.yn c l (by show (if E.yn = E.yn then some c else E.ctx E.yn) = some c; rw [if_pos rfl]) hl
  split at hrun
  · rename_i F1 hF1
    obtain ⟨k1, k2, k3⟩ := setPs_sound c.ps c.F F1 as vs r.tmps hF1 hv hR.lt hR.size hR.frame
    have hsz : vs.toArray.size = r.params.size := by
      have : r.params.size = c.ps.length := by rw [← hR.ps]; simp
      simp [this, k1]
    have hfold : (r.params.zip vs.toArray).foldl (fun tmps (t, a) => tmps.setIfInBounds t a) r.tmps = (c.ps.zip vs).foldl (fun (t : Array Value) (x : Nat × Value) => t.setIfInBounds x.1 x.2) r.tmps := by
      rw [← hR.ps, ← Array.foldl_toList]
      simp
    refine ⟨r.fn, _, r.assign, r.body, run_yield hR.free.at_ hsz, fun ro => ?_⟩
    rw [hfold]
    generalize (c.ps.zip vs).foldl (fun (t : Array Value) (x : Nat × Value) => t.setIfInBounds x.1 x.2) r.tmps = tmps1 at k2 k3 ⊢
    obtain ⟨loc, fg, ca, cb⟩ := hR.code
    have hne : ∀ k x, E.ctx k = some x → g.lam k ≠ some l := by
      intro k x e e2
      have hk : k ≠ E.yn := fun e3 => by rw [hE.top k (by omega)] at e; cases e
      refine hk (hL.inj k E.yn l ?_ ?_ e2 hl)
      · show (if k = E.yn then some c else E.ctx k).isSome = true
        rw [if_neg hk, e]; rfl
      · show (if E.yn = E.yn then some c else E.ctx E.yn).isSome = true
        rw [if_pos rfl]; rfl
    have hL1 : Lps P (E.ats y) { g with β := fun _ => none } H w := (hL.pop hE.top).enter
    have hr1 : Rel (E.ats y) nt' { g with β := fun _ => none } F1 H tmps1 w := Rel.env (E := E.push c h) (E' := E.ats y) rfl (hr.round k2 k3)
    have hF0 : FreeB { g with β := fun _ => none } w l (.loop r) := ⟨hR.free.at_, hR.free.rng, fun ⟨s, e⟩ => by simp at e, hR.free.imm⟩
    split at hrun
    · rename_i F2 H2 ha
      rw [← ca] at ha
      refine roundIn_of_wpIn trivial (wpIn_mono (hx (some l) true loc fg nt' w.heap.size r.assign _ F1 H ⟨tmps1, []⟩ w .norm F2 H2 (fun e => by cases e) ha hr1 hL1 (Nat.le_refl _) DfOk.nil) fun e1 a1 w1 hp => ?_)
      obtain ⟨hp1, g1, n1, r1, d1⟩ := hp
      cases e1 <;> simp only [ExR] at hp1
      have f1 := hF0.nx n1
      refine ⟨_, run_beginRound f1.at_ hR.ready, ?_⟩
      have hA := f1.agr (o' := .loop { r with state := .busy }) (by simp [Obj.rec])
      have r2 := r1.agr hA
      have hL2 : Lps P (E.ats y) g1 H2 (w1.putObj l (.loop { r with state := .busy })) := (hL1.nx n1).putAt f1 (by simp [Obj.rec]) r1.imm fun k x e => by rw [n1.on.lam]; exact hne k x e
      have d2 : DfOk E w.heap.size g1 (w1.putObj l (.loop { r with state := .busy })) a1.defers := d1.other f1
      have f2 : FreeB g1 (w1.putObj l (.loop { r with state := .busy })) l (.loop { r with state := .busy }) := f1.put
      have back : ∀ {g3 : Gh} {w3 : World} {F3 : Frm} {H3 : Hp} {a3 : Act}, Nx g1 g3 H2 H3 (w1.putObj l (.loop { r with state := .busy })) w3 → Rel (E.ats y) nt' g3 F3 H3 a3.tmps w3 →
          Nx g { g3 with β := g.β } H H3 w (w3.putObj l (.loop r)) ∧ Rel (E.push c h) nt { g3 with β := g.β } F H3 tmps (w3.putObj l (.loop r)) ∧ FreeB { g3 with β := g.β } (w3.putObj l (.loop r)) l (.loop r) := by
        intro g3 w3 F3 H3 a3 n3 r3
        have f3 := f2.nx n3
        have n4 := n1.trans (Nx.put f1 (by simp [Obj.rec]) n3)
        have r4 := r3.agr (f3.agr (o' := .loop r) (by simp [Obj.rec]))
        obtain ⟨r5, n5⟩ := hr.back n4 (Rel.env (E := E.ats y) (E' := E.push c h) rfl r4)
        exact ⟨n5, r5, World.putObj_heap_same f3.lt, f3.rng, hR.free.bet, f3.imm⟩
      split at hrun
      · rename_i F3 H3 hb
        cases hrun
        rw [← cb] at hb
        refine wpIn_mono (hx (some l) true loc fg nt' w.heap.size r.body g1 F2 H2 a1 _ .norm F3 _ (fun e => by cases e) hb r2 hL2 (by rw [World.putObj_size]; exact n1.size) d2) fun e3 a3 w3 hp => ?_
        obtain ⟨hp3, g3, n3, r3, d3⟩ := hp
        cases e3 <;> simp only [ExR] at hp3
        obtain ⟨q1, q2, q3⟩ := back n3 r3
        refine ⟨_, _, run_endRound none (f2.nx n3).at_, ?_⟩
        have hrr : Obj.loop { ({ r with state := LoopState.busy } : Loop) with state := if (none : Option Code).isNone then .ready else .done, pending := none } = .loop r := by
          have h1 := hR.ready
          have h2 := hR.none_
          cases r
          simp_all
        rw [hrr]
        exact ⟨rfl, _, q1, q2⟩
      · rename_i i F3 H3 hb
        cases hrun
        rw [← cb] at hb
        refine wpIn_mono (hx (some l) true loc fg nt' w.heap.size r.body g1 F2 H2 a1 _ (.exit i) F3 _ (fun e => by cases e) hb r2 hL2 (by rw [World.putObj_size]; exact n1.size) d2) fun e3 a3 w3 hp => ?_
        obtain ⟨hp3, g3, n3, r3, d3⟩ := hp
        cases e3 <;> simp only [ExR] at hp3
        subst hp3
        obtain ⟨q1, q2, q3⟩ := back n3 r3
        refine ⟨_, _, run_endRound (some (.exit i)) (f2.nx n3).at_, rfl, _, _, r, q1, q2, q3, ?_⟩
        rw [putObj_twice]
        rfl
      · cases hrun
    · cases hrun
  · cases hrun

theorem RdPost.env {E E' : Env} {o : Option Nat} {l : Nat} {e : Ending} (he : E'.glob = E.glob) (h : RdPost E nt g F H tmps w o H' l e w') : RdPost E' nt g F H tmps w o H' l e w' := by
  cases e with
  | returned v =>
    cases o with
    | none =>
      obtain ⟨h1, g', h2, h3⟩ := h
      exact ⟨h1, g', h2, h3.env he⟩
    | some i =>
      obtain ⟨h1, g', w1, r, h2, h3, h4, h5⟩ := h
      exact ⟨h1, g', w1, r, h2, h3.env he, h4, h5⟩
  | panicked _ => exact h
  | outgrown => exact h
theorem EnvOk.ats {y : Nat} (hE : EnvOk P E) (hy : E.yn ≤ y) : EnvOk P (E.ats y) where
  sum := hE.sum
  fns := hE.fns
  eff := fun y' hy' => hE.eff y' (Nat.le_trans hy hy')
  dn := hE.dn
  top := fun k hk => hE.top k (Nat.le_trans hy hk)
  yl := fun y' k as H o H' h hy' nt g F tmps w vs l hr hL hl hv => by
    obtain ⟨fn, t1, as1, bd, h1, h2⟩ := hE.yl y' k as H o H' h (Nat.le_trans hy hy') nt g F tmps w vs l (Rel.env (E := E.ats y) (E' := E) rfl hr) hL hl hv
    exact ⟨fn, t1, as1, bd, h1, fun ro => (h2 ro).mono fun e w' he => RdPost.env (E := E) (E' := E.ats y) rfl he⟩
/-- Another environment with the same loops. -/
theorem EnvOk.yl' {E' : Env} (hE : EnvOk P E) (e1 : E'.glob = E.glob) (e2 : E'.ctx = E.ctx) (e3 : E'.yn = E.yn) (e4 : E'.yl = E.yl) : ∀ y k as H o H', E'.yl y k as H = some (o, H') → E'.yn ≤ y → ∀ nt g F tmps w vs l, Rel E' nt g F H tmps w → Lps P (E'.ats y) g H w → g.lam k = some l → VRs g H w as vs →
    ∃ (fn : FuncId) (tmps1 : Array Value) (assign body : Code), (Instr.yield l vs.toArray).run P w = .ok (.round l fn tmps1 assign body) w ∧
      ∀ ro, RoundIn (Fc ro) 0 P l fn tmps1 assign body w (RdPost E' nt g F H tmps w o H' l) := by
  intro y k as H o H' h hy nt g F tmps w vs l hr hL hl hv
  obtain ⟨fn, t1, as1, bd, h1, h2⟩ := hE.yl y k as H o H' (by rw [← e4]; exact h) (by rw [← e3]; exact hy) nt g F tmps w vs l (hr.env e1.symm) (Lps.env (E := E'.ats y) (E' := E.ats y) e2.symm rfl hL) hl hv
  exact ⟨fn, t1, as1, bd, h1, fun ro => (h2 ro).mono fun e w' he => RdPost.env e1 he⟩
theorem EnvOk.eff' {E' : Env} {call : Nat → List PV → Hp → Option (PV × Hp)} (e1 : E'.glob = E.glob) (e2 : E'.ctx = E.ctx) (e3 : E'.yn = E.yn) (h : InlineOk0 P E call) : InlineOk0 P E' call :=
  fun y hy => InlineOk.env (E := E.ats y) (E' := E'.ats y) e1 e2 rfl (h y (by rw [← e3]; exact hy))
/-- What a round of a loop does, by the evaluator. -/
def roundF (E : Env) (n : Nat) (c : LCtx) (y : Nat) (vs : List PV) (H : Hp) : Option (Option Nat × Hp) :=
  match setPs c.F c.ps vs with
  | some F1 => (match exec (E.ats y) n c.as F1 H with
    | some (.norm, F2, H2) => (match exec (E.ats y) n c.bd F2 H2 with
      | some (.norm, _, H3) => some (none, H3)
      | some (.exit i, _, H3) => some (some i, H3)
      | _ => none)
    | _ => none)
  | none => none
theorem EnvOk.push {n : Nat} {c : LCtx} (hE : EnvOk P E) (hx : ∀ y, E.yn + 1 ≤ y → ExecOk P (E.ats y) n) : EnvOk P (E.push c (roundF E n c)) where
  sum := hE.sum
  fns := hE.fns
  eff := fun y hy f args H r H' hc nt g F tmps w vs hr hL hv => by
    have hy : E.yn + 1 ≤ y := hy
    exact (hE.eff y (by omega) f args H r H' hc nt g F tmps w vs (Rel.env (E := (E.push c (roundF E n c)).ats y) (E' := E.ats y) rfl hr) (hL.pop hE.top) hv).mono fun v w' ⟨g', h1, h2, h3⟩ => ⟨g', h1, Rel.env (E := E.ats y) (E' := (E.push c (roundF E n c)).ats y) rfl h2, h3⟩
  dn := hE.dn
  top := fun k hk => by
    have hk : E.yn + 1 ≤ k := hk
    show (if k = E.yn then some c else E.ctx k) = none
    rw [if_neg (by omega)]
    exact hE.top k (by omega)
  yl := fun y k as H o H' h hy nt g F tmps w vs l hr hL hl hv => by
    have hy : E.yn + 1 ≤ y := hy
    have hh : (if k = E.yn then roundF E n c y as H else E.yl y k as H) = some (o, H') := h
    by_cases hk : k = E.yn
    · rw [if_pos hk] at hh
      subst hk
      exact round_sound (c := c) hE hy (hx y hy) hh hr hL hl hv
    · rw [if_neg hk] at hh
      obtain ⟨fn, t1, as1, bd, h1, h2⟩ := hE.yl y k as H o H' hh (by omega) nt g F tmps w vs l (Rel.env (E := E.push c (roundF E n c)) (E' := E) rfl hr) (hL.pop hE.top) hl hv
      exact ⟨fn, t1, as1, bd, h1, fun ro => (h2 ro).mono fun e w' he => RdPost.env (E := E) (E' := E.push c (roundF E n c)) rfl he⟩
theorem LoopR.up {L : Nat → Option Nat} {c : LCtx} {l : Nat} {r : Loop} (hL : ∀ k l, g.lam k = some l → L k = some l) (h : LoopR P c g H w l r nt) : LoopR P c (g.wl L) H w l r nt := by
  have hU : ∀ f, (fun _ : Fn => true) f = true → g.okF f → (g.wl L).okF f ∧ (g.wl L).tr f = g.tr f := fun f _ hf => Gh.okF_lam (g' := g.wl L) hL hf
  exact ⟨⟨h.free.at_, h.free.rng, h.free.bet, h.free.imm⟩, h.ready, h.none_, h.ps, h.lt, h.code, h.size, fun s fv hs => by
    obtain ⟨p, e, hp⟩ := h.frame s fv hs
    exact ⟨p, e, VR_lam hU (fun _ _ => rfl) p _ (fnAll_true p) hp⟩⟩
theorem LoopR.agr {c : LCtx} {l : Nat} {r : Loop} (hA : Agr g w w') (hi : ∀ b, g.I b → b < w.heap.size) (hk : ∀ b, b < w.heap.size → w'.heap[b]? = w.heap[b]?) (h : LoopR P c g H w l r nt) : LoopR P c g H w' l r nt := by
  have hon := hA.on (H := H) hi
  exact ⟨⟨(hk l h.free.lt).trans h.free.at_, h.free.rng, h.free.bet, h.free.imm⟩, h.ready, h.none_, h.ps, h.lt, h.code, h.size, fun s fv hs => by
    obtain ⟨p, e, hp⟩ := h.frame s fv hs
    exact ⟨p, e, VR_on hon p _ hp⟩⟩

/-- A range over a function. -/
theorem range_sound {base n : Nat} {x : Opd} {gop : Operand} {psA : Array Tmp} {assign body : Code} {loc : List Nat} {fg : Nat → List Nat} {ex : Ex} (hE : EnvOk P E) (hx : ∀ E', EnvOk P E' → ExecOk P E' n)
    (hg : opd gop = some x) (hps : psA.toList.all (fun p => decide (p < nt)) = true)
    (h : exec E (n + 1) (.rangeF x psA.toList (compCode P loc fg nt true assign) (compCode P loc fg nt true body)) F H = some (ex, F', H'))
    (hr : Rel E nt g F H a.tmps w) (hL : Lps P E g H w) (hb : base ≤ w.heap.size) (hdf : DfOk E base g w a.defers) :
    (Code.rangeFunc gop psA assign body).wpIn (Fc none) 0 P (PostR E nt base g H w ex F' H') a w := by
  simp only [exec] at h
  split at h
  · rename_i f first cap hfv
    split at h
    · rename_i fn hfn
      split at h
      · rename_i hn
        obtain ⟨hn1, hn2⟩ := hn
        obtain ⟨fu, loc', fg', hfu, hcomp⟩ := hE.fns f fn hfn
        unfold compFn at hcomp
        split at hcomp
        · rename_i c' rs hbd hrs
          split at hcomp
          · cases hcomp
          · rename_i hname
            cases hcomp
            simp only [] at h hn1 hn2
            have hrs0 : rs = [] := List.length_eq_zero_iff.1 hn2
            subst hrs0
            have hv := evV_sound hr hg hfv
            simp only [VR] at hv
            obtain ⟨fs, cs, hfe, hfs, hcs, _⟩ := hv
            have hfe : a.eval gop = .func (.func f) fs.toArray cs.toArray := hfe
            refine wpIn_rangeFunc fun fid _ => ?_
            let rec0 : Loop := { state := .ready, pending := none, fn := fid, tmps := a.tmps, params := psA, assign := assign, body := body, defers := w.heap.size }
            let W1 : World := (w.alloc (.deferred (some []))).alloc (.loop rec0)
            let l : Nat := w.heap.size + 1
            have hs1 : W1.heap.size = w.heap.size + 2 := by simp [W1, World.size_alloc]
            have hold : ∀ b, b < w.heap.size → W1.heap[b]? = w.heap[b]? := by
              intro b hb
              show ((w.heap.push _).push _)[b]? = _
              rw [Array.getElem?_push_lt (by simp; omega), Array.getElem_push_lt hb]
              simp [hb]
            have hat0 : W1.heap[w.heap.size]? = some (.deferred (some [])) := by
              show ((w.heap.push _).push _)[w.heap.size]? = _
              rw [Array.getElem?_push_lt (by simp)]
              simp
            have hat1 : W1.heap[l]? = some (.loop rec0) := by
              have := World.alloc_heap_new (w.alloc (.deferred (some []))) (.loop rec0)
              rw [World.size_alloc] at this
              exact this
            have hA : Agr g w W1 := ⟨rfl, rfl, rfl, Nat.le_refl _, by omega, fun b hb => .inl (hold b hb)⟩
            have hN : Nx g g H H w W1 := hA.nx hr.imm hold
            have hrW : Rel E nt g F H a.tmps W1 := hr.agr hA
            have fresh : ∀ b, w.heap.size ≤ b → ¬ RngR g b ∧ ¬ MutF g b ∧ ¬ g.I b := fun b hb =>
              ⟨fun hh => by have := hr.brng hh; omega, fun ⟨s, hh⟩ => by have := (hr.bimm s b hh).2; omega, fun hh => by have := hr.imm b hh; omega⟩
            let L : Nat → Option Nat := fun k => if k = E.yn then some l else g.lam k
            have hUp : ∀ k l', g.lam k = some l' → L k = some l' := by
              intro k l' e
              have : k ≠ E.yn := fun e2 => by rw [hL.top k (by omega)] at e; cases e
              show (if k = E.yn then some l else g.lam k) = some l'
              rw [if_neg this]; exact e
            have hU : ∀ f, (fun _ : Fn => true) f = true → g.okF f → (g.wl L).okF f ∧ (g.wl L).tr f = g.tr f := fun f _ hf => Gh.okF_lam (g' := g.wl L) hUp hf
            let cx : LCtx := ⟨noBox F, psA.toList, compCode P loc fg nt true assign, compCode P loc fg nt true body⟩
            have hF0 : FreeB (g.wl L) W1 l (.loop rec0) := ⟨hat1, (fresh l (by omega)).1, (fresh l (by omega)).2.1, (fresh l (by omega)).2.2⟩
            have hL1 : Lps P (E.push cx (roundF E n cx)) (g.wl L) H W1 := by
              refine ⟨fun k c l' hc hl => ?_, fun k k' l' h1 h2 h3 h4 => ?_, fun k hk => ?_⟩
              · have hc : (if k = E.yn then some cx else E.ctx k) = some c := hc
                have hl : (if k = E.yn then some l else g.lam k) = some l' := hl
                by_cases hk : k = E.yn
                · rw [if_pos hk] at hc hl
                  cases hc; cases hl
                  refine ⟨rec0, nt, hF0, rfl, rfl, rfl, fun p hp => ?_, ⟨loc, fg, rfl, rfl⟩, hr.size, fun s fv hs => ?_⟩
                  · have := List.all_eq_true.1 hps p hp
                    simpa using this
                  · obtain ⟨p, rfl, e⟩ := fget_noBox F s fv hs
                    have := hrW.frame s _ e
                    simp only [FRel] at this
                    exact ⟨p, rfl, VR_lam hU (fun _ _ => rfl) p _ (fnAll_true p) this⟩
                · rw [if_neg hk] at hc hl
                  obtain ⟨r, nt', hR⟩ := hL.loop k c l' hc hl
                  exact ⟨r, nt', (hR.agr hA hr.imm hold).up hUp⟩
              · have h1 : (if k = E.yn then some cx else E.ctx k).isSome = true := h1
                have h2 : (if k' = E.yn then some cx else E.ctx k').isSome = true := h2
                have h3 : (if k = E.yn then some l else g.lam k) = some l' := h3
                have h4 : (if k' = E.yn then some l else g.lam k') = some l' := h4
                have old : ∀ {k}, (E.ctx k).isSome = true → g.lam k = some l' → l' < w.heap.size := fun hc hl => by
                  obtain ⟨c, hc⟩ := Option.isSome_iff_exists.1 hc
                  obtain ⟨r, nt', hR⟩ := hL.loop _ c l' hc hl
                  exact hR.free.lt
                by_cases hk : k = E.yn <;> by_cases hk' : k' = E.yn
                · omega
                · rw [if_pos hk] at h3; rw [if_neg hk'] at h2 h4
                  cases h3
                  have := old h2 h4; omega
                · rw [if_neg hk] at h1 h3; rw [if_pos hk'] at h4
                  cases h4
                  have := old h1 h3; omega
                · rw [if_neg hk] at h1 h3; rw [if_neg hk'] at h2 h4
                  exact hL.inj k k' l' h1 h2 h3 h4
              · have hk : E.yn + 1 ≤ k := hk
                show (if k = E.yn then some l else g.lam k) = none
                rw [if_neg (by omega)]
                exact hL.top k (by omega)
            have hE1 : EnvOk P (E.push cx (roundF E n cx)) := hE.push fun y hy => hx _ (hE.ats (by omega))
            let vs : List Value := fs ++ [.func (.yield l) #[] #[]] ++ cs
            have hvs : VRs (g.wl L) H W1 (first ++ [PV.fn (.yield E.yn) [] []] ++ cap) vs := by
              have hon := hA.on (H := H) hr.imm
              have hy : VR (g.wl L) H W1 (PV.fn (.yield E.yn) [] []) (.func (.yield l) #[] #[]) := by
                simp only [VR, VRs]
                refine ⟨[], [], ?_, rfl, rfl, ?_⟩
                · simp [Gh.tr, Gh.wl, L]
                · simp [Gh.okF, Gh.wl, L]
              refine VRs_append _ _ _ _ (VRs_append _ _ _ _ (VRs_lam hU (fun _ _ => rfl) _ _ (fnAllL_true _) (VRs_on hon _ _ hfs)) ?_) (VRs_lam hU (fun _ _ => rfl) _ _ (fnAllL_true _) (VRs_on hon _ _ hcs))
              simp only [VRs]
              exact ⟨_, [], rfl, hy, rfl⟩
            have hr1 : Rel (E.push cx (roundF E n cx)) fu.ntmps { g.wl L with β := fun _ => none } (frame0 0 (first ++ [PV.fn (.yield E.yn) [] []] ++ cap)) H (vs.toArray ++ Array.replicate (fu.ntmps - vs.toArray.size) undef) W1 :=
              Rel.env (E := E) (E' := E.push cx (roundF E n cx)) rfl ((hrW.lamUp hUp).enter hvs fu.ntmps)
            have hname' : ¬ fu.name = "runtime.NumGoroutine" := by simpa using hname
            refine ⟨l, [mk w.heap.size], W1, ⟨.fn (.func f) cs.toArray, fs.toArray ++ #[.func (.yield l) #[] #[]]⟩, W1, f, vs.toArray, W1, run_enterLoop_outer fid a.tmps psA assign body, ?_, fun _ _ => trivial, ?_, fun hd => by simp [Fence.wide] at hd, ?_⟩
            · have e1 : a.eval gop = .func (.func f) fs.toArray cs.toArray := hfe
              have e2 : ∀ v, a.eval (.const v) = v := fun _ => rfl
              simp [resolve, e1, e2, Deferred.ofValue]
            · simp [invoke, callFunc, hfu, hname', hbd, vs]
            · have hF0' : FreeB { g.wl L with β := fun _ => none } W1 l (.loop rec0) := ⟨hF0.at_, hF0.rng, fun ⟨s, e⟩ => by simp at e, hF0.imm⟩
              have fin : ∀ (g2 : Gh) (F2 : Frm) (H2 : Hp) (tm2 : Array Value) (w1 : World) (o1 o2 : Obj) (H3 : Hp), clrY E.yn H.length H2 = some H3 → Obj.rec o1 → Nx { g.wl L with β := fun _ => none } g2 H H2 W1 w1 → Rel (E.push cx (roundF E n cx)) fu.ntmps g2 F2 H2 tm2 w1 → FreeB g2 w1 l o1 →
                  ∃ g', Nx g g' H H3 w (w1.putObj l o2) ∧ Rel E nt g' F H3 a.tmps (w1.putObj l o2) ∧ DfOk E base g' (w1.putObj l o2) ([mk w.heap.size] ++ a.defers) := by
                intro g2 F2 H2 tm2 w1 o1 o2 H3 hno ho1 n2 r2 f2
                have hdn : ∀ k, k ≠ E.yn → g.lam k = g2.lam k := fun k hk => by
                  rw [n2.on.lam]
                  show g.lam k = if k = E.yn then some l else g.lam k
                  rw [if_neg hk]
                have r3 := (Rel.env (E := E.push cx (roundF E n cx)) (E' := E) rfl r2).lamDown (L := g.lam) hdn hno
                have n3 : Nx { g with β := fun _ => none } (g2.wl g.lam) H H3 W1 w1 := ⟨n2.os, n2.tape, n2.output, n2.drawn, n2.size, n2.kept, n2.rng, n2.immb, n2.bet, ⟨n2.on.keeps, clrY_hext hno n2.on.hext, n2.on.shape, rfl⟩⟩
                obtain ⟨r4, n4⟩ := hrW.back n3 r3
                have f4 : FreeB { g2.wl g.lam with β := g.β } w1 l o1 := ⟨f2.at_, f2.rng, hF0.bet, f2.imm⟩
                have hA4 := f4.agr (o' := o2) ho1
                refine ⟨_, (hN.trans n4).later hA4 r4.imm fun b hb => World.putObj_heap_other (by omega), r4.agr hA4, ?_⟩
                obtain ⟨rs, e1, e2, e3, e4⟩ := hdf
                have fr : FreeB g W1 w.heap.size (.deferred (some [])) := ⟨hat0, (fresh _ (Nat.le_refl _)).1, (fresh _ (Nat.le_refl _)).2.1, (fresh _ (Nat.le_refl _)).2.2⟩
                have hfm : ((some w.heap.size, mk w.heap.size) :: rs).filterMap (·.1) = w.heap.size :: rs.filterMap (·.1) := by rw [List.filterMap_cons]
                refine ⟨(some w.heap.size, mk w.heap.size) :: rs, by rw [e1]; rfl, by rw [hfm]; exact List.nodup_cons.2 ⟨fun hm => by have := (e3 _ hm).2.lt; omega, e2⟩, fun b hb' => ?_, fun x hx hn => ?_⟩
                · rw [hfm] at hb'
                  rcases List.mem_cons.1 hb' with rfl | hm
                  · exact ⟨hb, (fr.nx n4).other (by omega)⟩
                  · exact ⟨(e3 b hm).1, (((e3 b hm).2.nx hN).nx n4).other (by have := (e3 b hm).2.lt; omega)⟩
                · rcases List.mem_cons.1 hx with rfl | hx
                  · cases hn
                  · exact e4 x hx hn
              have go : ∀ ex2 F2 H2, exec (E.push cx (roundF E n cx)) n (compCode P loc' fg' fu.ntmps false c') (frame0 0 (first ++ [PV.fn (.yield E.yn) [] []] ++ cap)) H = some (ex2, F2, H2) →
                  c'.wpIn (Fc none) 0 P (PostR (E.push cx (roundF E n cx)) fu.ntmps W1.heap.size { g.wl L with β := fun _ => none } H W1 ex2 F2 H2) { tmps := vs.toArray ++ Array.replicate (fu.ntmps - vs.toArray.size) undef, defers := [] } W1 :=
                fun ex2 F2 H2 he => hx _ hE1 none false loc' fg' fu.ntmps W1.heap.size c' _ _ H ⟨_, []⟩ W1 ex2 F2 H2 (fun _ => rfl) he hr1 hL1.enter (Nat.le_refl _) DfOk.nil
              have plain : ∀ ex2 F2 H2, exec (E.push cx (roundF E n cx)) n (compCode P loc' fg' fu.ntmps false c') (frame0 0 (first ++ [PV.fn (.yield E.yn) [] []] ++ cap)) H = some (ex2, F2, H2) → (ex2 = .norm ∨ ex2 = .ret) → clrY E.yn H.length H2 = some H' → ex = .norm → F' = F →
                  CallsIn (Fc none) (0 - 1) P f vs.toArray W1 (rangePost (Fc none) 0 P l (PostR E nt base g H w ex F' H') { a with defers := [mk w.heap.size] ++ a.defers }) := by
                intro ex2 F2 H2 he hex hno e1 e2
                subst e1; subst e2
                refine callsIn_of_wp_marks (F := Fc none) (n := 0) hfu hbd trivial (wpIn_mono (go ex2 F2 H2 he) fun e a' w' hp => ?_)
                have hp' : ExR ex2 e ∧ ∃ g', Nx { g.wl L with β := fun _ => none } g' H H2 W1 w' ∧ Rel (E.push cx (roundF E n cx)) fu.ntmps g' F2 H2 a'.tmps w' ∧ DfOk (E.push cx (roundF E n cx)) W1.heap.size g' w' a'.defers := by
                  rcases hex with rfl | rfl <;> exact hp
                obtain ⟨h1, g2, h3, h4, rs2, h5, h6, h7, h8⟩ := hp'
                have key : LeavesInM (Fc none) 0 P fu a'.tmps (rangePost (Fc none) 0 P l (PostR E nt base g H w .norm F' H') { a with defers := [mk w.heap.size] ++ a.defers }) a'.defers .returning w' := by
                  rw [h5]
                  refine marks_go hE1 (nt := fu.ntmps) (g0 := { g.wl L with β := fun _ => none }) (g2 := g2) (F2 := F2) (H := H) (H2 := H2) (w := W1) (fun x => x) (fun _ => True) (fun w1 r hf _ => ⟨hf.at_, rfl, trivial⟩) (fun w1 k1 k2 _ => ?_) rs2 w' h6 h7 h8 h4 h3 trivial
                  obtain ⟨v, hv1, _⟩ := results_sound (P := P) (ps := []) k1 hrs rfl
                  have f2 := hF0'.nx k2
                  obtain ⟨g', q1, q2, q3⟩ := fin g2 F2 H2 a'.tmps w1 _ (.loop { rec0 with state := .exhausted }) _ hno (by simp [Obj.rec]) k2 k1 f2
                  exact ⟨v, hv1, none, _, run_endLoop f2.at_ (by simp [rec0]), trivial, g', q1, q2, q3⟩
                rcases hex with rfl | rfl <;> cases e <;> simp only [ExR] at h1 <;> exact key
              split at h
              · rename_i F2 H2 he
                split at h
                · rename_i H3 hno
                  cases h
                  exact plain _ F2 H2 he (.inl rfl) hno rfl rfl
                · cases h
              · rename_i F2 H2 he
                split at h
                · rename_i H3 hno
                  cases h
                  exact plain _ F2 H2 he (.inr rfl) hno rfl rfl
                · cases h
              · rename_i k i F2 H2 he
                split at h
                · rename_i hkk
                  subst hkk
                  split at h
                  · rename_i H3 hno
                    cases h
                    refine callsIn_of_wp_marks (F := Fc none) (n := 0) hfu hbd trivial (wpIn_mono (go _ F2 H2 he) fun e a' w' hp => ?_)
                    obtain ⟨rfl, g2, w1, l', r, h2, h3, h4, h5, ⟨rs2, h6, h7, h8, h9⟩, rfl⟩ := hp
                    have hl' : l' = l := by
                      have : (if E.yn = E.yn then some l else g.lam E.yn) = some l' := h2
                      rw [if_pos rfl] at this
                      cases this; rfl
                    subst hl'
                    show LeavesInM (Fc none) 0 P fu a'.tmps _ a'.defers .returning _
                    rw [h6]
                    refine marks_go hE1 (nt := fu.ntmps) (g0 := { g.wl L with β := fun _ => none }) (g2 := g2) (F2 := F2) (H := H) (H2 := H2) (w := W1) (fun x => x.putObj l (doneObj r i)) (fun x => FreeB g2 x l (.loop r)) (fun w1 b hf hg => ?_) (fun w1 k1 k2 hg => ?_) rs2 w1 h7 h8 h9 h4 h3 h5
                    · have hne : b ≠ l := fun e => by
                        have := hf.at_
                        rw [e, hg.at_] at this
                        cases this
                      exact ⟨(World.putObj_heap_other hne).trans hf.at_, putObj_comm (fun e => hne e.symm), hg.other (fun e => hne e.symm)⟩
                    · have hA2 := hg.agr (o' := doneObj r i) (by simp [Obj.rec])
                      obtain ⟨v, hv1, _⟩ := results_sound (P := P) (ps := []) (k1.agr hA2) hrs rfl
                      obtain ⟨g', q1, q2, q3⟩ := fin g2 F2 H2 a'.tmps w1 _ (.loop { r with state := .exhausted, pending := some (.exit i) }) _ hno (by simp [Obj.rec]) k2 k1 hg
                      have hpu := (hg.put (o' := doneObj r i)).at_
                      refine ⟨v, hv1, some (.exit i), _, run_endLoop hpu (by simp), ?_⟩
                      rw [putObj_twice]
                      exact wpIn_exit ⟨rfl, g', q1, q2, q3⟩
                  · cases h
                · cases h
              · cases h
        · cases hcomp
      · cases h
    · cases h
  · cases h

theorem PostR.noGo {base : Nat} {ex : Ex} {e : Exit} {a' : Act} (h : PostR E nt base g H w ex F' H' e a' w') : noGo (PostR E nt base g H w ex F' H') e a' w' := by
  cases e with
  | goto t =>
    cases ex with
    | brk k i => obtain ⟨h1, _⟩ := h; cases h1
    | _ => exact h.1.elim
  | _ => exact h
theorem exec_sound (hdraw : ∀ E, EnvOk P E → ∀ call, InlineOk P E call → DrawOk P E call) : ∀ n E, EnvOk P E → ExecOk P E n ∧ LoopOk P E n ∧ LoopGOk P E n ∧ InlineOk P E (inline E n) := by
  intro n
  induction n using Nat.strongRecOn with
  | _ n ih0 =>
  cases n with
  | zero =>
    intro E hE
    refine ⟨?_, ?_, ?_, ?_⟩
    · intro ro inR loc fg nt base c g F H a w ex F' H' _ h; simp [exec] at h
    · intro ro inR loc fg nt base c g F H a w ex F' H' _ h; simp [exec] at h
    · intro ro inR loc fg nt base c g F H a w ex F' H' _ h; simp [exec] at h
    · intro f args H r H' h; simp [inline] at h
  | succ n =>
    intro E hE
    obtain ⟨ihx, ihl, ihlg, ihi⟩ := ih0 n (by omega) E hE
    have hloop : LoopOk P E (n + 1) := by
      intro ro inR loc fg nt base c g F H a w ex F' H' hro h hr hL hb hdf b k cs hbr
      have hroom : (Fc ro).room (cs.length + 1 + 0) := room_wide _
      simp only [exec] at h
      split at h
      · rename_i F1 H1 h1
        obtain ⟨e, a1, w1, ⟨hp1, g1, hn1, hr1, hd1⟩, harr⟩ := ihx ro inR loc fg nt base c g F H a w _ _ _ hro h1 hr hL hb hdf b (.inLoop c :: k) cs hbr trivial hroom
        cases e <;> simp only [ExR] at hp1
        obtain ⟨e2, a2, w2, hq2, harr2⟩ := ihl ro inR loc fg nt base c g1 F1 H1 a1 w1 ex F' H' hro h hr1 (hL.nx hn1) (Nat.le_trans hb hn1.size) hd1 b k cs hbr
        exact ⟨e2, a2, w2, hq2.trans hn1, .of_steps (StepsIn.trans harr (.one (fenced_calm trivial hroom rfl) stepR_inLoop)) harr2⟩
      · rename_i hne
        obtain ⟨e, a1, w1, hp, harr⟩ := ihx ro inR loc fg nt base c g F H a w _ _ _ hro h hr hL hb hdf b (.inLoop c :: k) cs hbr trivial hroom
        have hex : ex ≠ .norm := fun e => hne F' H' (by rw [h, e])
        refine ⟨e, a1, w1, hp, .pass (x := .inLoop c) rfl (fun _ _ => .inl (fun e1 => ?_)) harr⟩
        subst e1
        cases ex with
        | norm => exact hex rfl
        | brk k i => obtain ⟨h1, _⟩ := hp; cases h1
        | _ => exact hp.1.elim
    have hloopG : LoopGOk P E (n + 1) := by
      intro ro inR loc fg nt base c g F H a w ex F' H' hro h hr hL hb hdf b k cs hbr
      have hroom : (Fc ro).room (cs.length + 1 + 0) := room_wide _
      simp only [exec] at h
      split at h
      · rename_i F1 H1 h1
        obtain ⟨e, a1, w1, ⟨hp1, g1, hn1, hr1, hd1⟩, harr⟩ := ihx ro inR loc fg nt base c g F H a w _ _ _ hro h1 hr hL hb hdf b (.inLoop c :: k) cs hbr trivial hroom
        cases e <;> simp only [ExR] at hp1
        obtain ⟨g2, hn2, hr2, q1, q2, q3⟩ := Rel.gc hn1 hr1
        obtain ⟨e2, a2, w2, hq2, harr2⟩ := ihlg ro inR loc fg nt base c g2 F1 _ a1 w1 ex F' H' hro h hr2 (hL.nx hn2) (Nat.le_trans hb hn2.size) (hd1.cut q1 q2 q3) b k cs hbr
        exact ⟨e2, a2, w2, hq2.trans hn2, .of_steps (StepsIn.trans harr (.one (fenced_calm trivial hroom rfl) stepR_inLoop)) harr2⟩
      · rename_i hne
        obtain ⟨e, a1, w1, hp, harr⟩ := ihx ro inR loc fg nt base c g F H a w _ _ _ hro h hr hL hb hdf b (.inLoop c :: k) cs hbr trivial hroom
        have hex : ex ≠ .norm := fun e => hne F' H' (by rw [h, e])
        refine ⟨e, a1, w1, hp, .pass (x := .inLoop c) rfl (fun _ _ => .inl (fun e1 => ?_)) harr⟩
        subst e1
        cases ex with
        | norm => exact hex rfl
        | brk k i => obtain ⟨h1, _⟩ := hp; cases h1
        | _ => exact hp.1.elim
    refine ⟨?_, hloop, hloopG, inline_sound hE ihx⟩
    intro ro inR loc fg nt base c
    induction c with
    | scope x ihs =>
      intro g F H a w ex F' H' hro h hr hL hb hdf
      simp only [compCode] at h
      exact wpIn_scope (wpIn_mono (ihs g F H a w ex F' H' hro h hr hL hb hdf) fun e a' w' hp => hp.noGo)
    | skip =>
      intro g F H a w ex F' H' hro h hr hL hb hdf
      simp only [compCode, exec, Option.some.injEq, Prod.mk.injEq] at h
      obtain ⟨rfl, rfl, rfl⟩ := h
      exact wpIn_skip ⟨trivial, g, Nx.refl g H w, hr, hdf⟩
    | label l =>
      intro g F H a w ex F' H' hro h hr hL hb hdf
      simp only [compCode, exec, Option.some.injEq, Prod.mk.injEq] at h
      obtain ⟨rfl, rfl, rfl⟩ := h
      exact wpIn_label ⟨trivial, g, Nx.refl g H w, hr, hdf⟩
    | exit id =>
      intro g F H a w ex F' H' hro h hr hL hb hdf
      simp only [compCode, exec, Option.some.injEq, Prod.mk.injEq] at h
      obtain ⟨rfl, rfl, rfl⟩ := h
      exact wpIn_exit ⟨rfl, g, Nx.refl g H w, hr, hdf⟩
    | ret =>
      intro g F H a w ex F' H' hro h hr hL hb hdf
      simp only [compCode, exec, Option.some.injEq, Prod.mk.injEq] at h
      obtain ⟨rfl, rfl, rfl⟩ := h
      exact wpIn_ret ⟨trivial, g, Nx.refl g H w, hr, hdf⟩
    | region id ops draw =>
      intro g F H a w ex F' H' hro h hr hL hb hdf
      simp only [compCode] at h
      obtain ⟨rfl, hw⟩ := reg_sound (ro := ro) hE ihi (hdraw E hE) hro h hr hL hdf
      exact hw
    | seq x y _ _ =>
      intro g F H a w ex F' H' hro h hr hL hb hdf
      have dflt : exec E (n + 1) (.seq (compCode P loc fg nt inR x) (compCode P loc fg nt inR y)) F H = some (ex, F', H') → (Code.seq x y).wpIn (Fc ro) 0 P (PostR E nt base g H w ex F' H') a w := by
        intro h
        simp only [exec] at h
        split at h
        · rename_i F1 H1 h1
          refine wpIn_seq (wpIn_mono (ihx ro inR loc fg nt base x g F H a w _ _ _ hro h1 hr hL hb hdf) fun e a1 w1 hp => ?_)
          obtain ⟨hp1, g1, hn1, hr1, hd1⟩ := hp
          cases e <;> simp only [ExR] at hp1
          exact wpIn_mono (ihx ro inR loc fg nt base y g1 F1 H1 a1 w1 _ _ _ hro h hr1 (hL.nx hn1) (Nat.le_trans hb hn1.size) hd1) fun e a' w' hp => hp.trans hn1
        · rename_i hne
          refine wpIn_seq (wpIn_mono (ihx ro inR loc fg nt base x g F H a w _ _ _ hro h hr hL hb hdf) fun e a1 w1 hp => ?_)
          have hex : ex ≠ .norm := fun e => hne F' H' (by rw [h, e])
          cases e with
          | normal =>
            cases ex with
            | norm => exact absurd rfl hex
            | brk k i => obtain ⟨h1, _⟩ := hp; cases h1
            | _ => exact hp.1.elim
          | _ => exact hp
      unfold compCode at h
      split at h
      · rename_i id ops e
        split at h
        · rename_i c' hy
          exact yret_sound hE (fun m hm => (ih0 m (by omega) E hE).2.2.2) (hdraw E hE) hro hy h hr hL hdf
        · exact plain_sound hE (fun m hm => (ih0 m (by omega) E hE).2.2.2) (hdraw E hE) hro h hr hL hdf
      · exact dflt h
    | cond x y z _ _ =>
      intro g F H a w ex F' H' hro h hr hL hb hdf
      simp only [compCode] at h
      split at h
      · rename_i x' hx
        simp only [exec] at h
        split at h
        · rename_i hbv
          have := evV_sound hr hx hbv
          simp only [VR] at this
          exact wpIn_cond_true this (ihx ro inR loc fg nt base y g F H a w _ _ _ hro h hr hL hb hdf)
        · rename_i hbv
          have := evV_sound hr hx hbv
          simp only [VR] at this
          exact wpIn_cond_false this (ihx ro inR loc fg nt base z g F H a w _ _ _ hro h hr hL hb hdf)
        · cases h
      · simp [exec] at h
    | block id x _ =>
      intro g F H a w ex F' H' hro h hr hL hb hdf
      simp only [compCode, exec] at h
      split at h
      · rename_i i F1 H1 h1
        refine wpIn_block (wpIn_mono (ihx ro inR loc fg nt base x g F H a w _ _ _ hro h1 hr hL hb hdf) fun e a1 w1 hp => ?_)
        obtain ⟨hp1, hp3⟩ := hp
        cases e <;> simp only [ExR] at hp1
        subst hp1
        split at h
        · rename_i hi
          cases h
          simp only [Exit.inBlock, hi, if_true]
          exact ⟨trivial, hp3⟩
        · rename_i hi
          cases h
          simp only [Exit.inBlock, hi, if_false]
          exact ⟨rfl, hp3⟩
      · rename_i hne
        refine wpIn_block (wpIn_mono (ihx ro inR loc fg nt base x g F H a w _ _ _ hro h hr hL hb hdf) fun e a1 w1 hp => ?_)
        cases e with
        | exit j =>
          cases ex with
          | brk k i => obtain ⟨h1, _⟩ := hp; cases h1
          | exit i => exact absurd h (hne _ F' H')
          | _ => exact hp.1.elim
        | _ => exact hp
    | loop x _ =>
      intro g F H a w ex F' H' hro h hr hL hb hdf b k cs hbr _ hroom
      obtain ⟨e, a', w', hq, harr⟩ : ∃ e a' w', PostR E nt base g H w ex F' H' e a' w' ∧ ArrivesIn (Machine.fenced P (Fc ro)) P (lone (b.atR a (.code x :: .inLoop x :: k)) cs w) b k cs e a' w' := by
        simp only [compCode] at h
        split at h
        · exact hloop ro inR loc fg nt base x g F H a w ex F' H' hro h hr hL hb hdf b k cs hbr
        · exact hloopG ro inR loc fg nt base x g F H a w ex F' H' hro h hr hL hb hdf b k cs hbr
      exact ⟨e, a', w', hq, .of_steps (.one (fenced_calm trivial hroom rfl) stepR_loop) harr⟩
    | rangeFunc gop psA assign body _ _ =>
      intro g F H a w ex F' H' hro h hr hL hb hdf
      simp only [compCode] at h
      split at h
      · rename_i x hx
        split at h
        · simp [exec] at h
        · rename_i hin
          split at h
          · rename_i hps
            obtain rfl := hro (by simpa using hin)
            exact range_sound hE (fun E' hE' => (ih0 n (by omega) E' hE').1) hx hps h hr hL hb hdf
          · simp [exec] at h
      · simp [exec] at h
    | _ =>
      intro g F H a w ex F' H' hro h hr hL hb hdf
      simp [compCode, exec] at h
end
end Go.Pf
