/- The framework, part 20: the evaluator of code is sound. Regions with a draw are left open ('RegDraw'). -/
import Derived.Test.YtclfeoieffcoiaaFw19
import Derived.Orders
namespace Go.Pf
open Go Go.RowKit

/-- The call of a function by the evaluator is sound. -/
def InlineOk (P : Program) (E : Env) (call : Nat → List PV → Hp → Option (PV × Hp)) : Prop :=
  ∀ (f : Nat) (args : List PV) (H : Hp) (r : PV) (H' : Hp), call f args H = some (r, H') →
    ∀ (nt : Nat) (g : Gh) (F : Frm) (tmps : Array Value) (w : World) (vs : List Value), Rel E nt g F H tmps w → VRs g H w args vs →
      CallR P f vs.toArray w fun v w' => ∃ g', Nx g g' H H' w w' ∧ Rel E nt g' F H' tmps w' ∧ VR g' H' w' r v

theorem InlineOk.env {P : Program} {E E' : Env} {call : Nat → List PV → Hp → Option (PV × Hp)} (e : E'.glob = E.glob) (h : InlineOk P E call) : InlineOk P E' call := by
  intro f args H r H' hc nt g F tmps w vs hr hv
  obtain hh := h f args H r H' hc nt g F tmps w vs (hr.env e.symm) hv
  exact hh.mono fun v w' ⟨g', h1, h2, h3⟩ => ⟨g', h1, h2.env e, h3⟩
theorem InlineOk.none {P : Program} {E : Env} : InlineOk P E fun _ _ _ => none := fun _ _ _ _ _ h => by cases h

/-- What the environment says is so. -/
structure EnvOk (P : Program) (E : Env) : Prop where
  sum : ∀ n as r, E.sum n as = some r → SumOk P E.glob n as r
  fns : ∀ n fn, E.fns n = some fn → ∃ f loc fg, P.funcs[n]? = some f ∧ compFn P loc fg f = some fn
  eff : InlineOk P E E.effx

section
variable {P : Program} {E : Env} {nt : Nat} {g g' : Gh} {F F' : Frm} {H H' : Hp} {a : Act} {tmps : Array Value} {w w' : World} {o : Oper}

theorem compRes_cons {rv : ResultVar} {l : List ResultVar} {rs : List ARes} (h : compRes P (rv :: l) = some rs) : ∃ x r, rs = x :: r ∧ compRes P [rv] = some [x] ∧ compRes P l = some r := by
  cases rv with
  | tmp t =>
    simp only [compRes] at h ⊢
    split at h
    · rename_i r hr; cases h; exact ⟨_, _, rfl, rfl, hr⟩
    · cases h
  | cell a t =>
    simp only [compRes] at h ⊢
    split at h
    · rename_i gg i r h1 h2 h3; cases h; exact ⟨_, _, rfl, by rw [h1, h2], h3⟩
    · cases h

theorem ressOf_sound (hr : Rel E nt g F H tmps w) : ∀ (l : List ResultVar) (rs : List ARes) (ps : List PV), compRes P l = some rs → ressOf F H rs = some ps →
    ∃ vs : List Value, vs.length = l.length ∧ (∀ (i : Nat) (x : ResultVar) (y : Value), l[i]? = some x → vs[i]? = some y → (resRun tmps x).run P w = .ok y w) ∧ VRs g H w ps vs
  | [], rs, ps, hc, h => by
    simp [compRes] at hc; subst hc
    simp [ressOf] at h; subst h
    exact ⟨[], rfl, fun i x y e => by simp at e, by simp [VRs]⟩
  | rv :: l, rs, ps, hc, h => by
    obtain ⟨x, r, rfl, h1, h2⟩ := compRes_cons hc
    simp only [ressOf] at h
    split at h
    · rename_i p hp
      split at h
      · rename_i ps' hps
        cases h
        obtain ⟨v, h3, h4⟩ := resOf_sound hr h1 hp
        obtain ⟨vs, h5, h6, h7⟩ := ressOf_sound hr l r ps' h2 hps
        refine ⟨v :: vs, by simp [h5], fun i x y e1 e2 => ?_, by simp only [VRs]; exact ⟨v, vs, rfl, h4, h7⟩⟩
        cases i with
        | zero => simp at e1 e2; subst e1; subst e2; exact h3
        | succ i => simp at e1 e2; exact h6 i x y e1 e2
      · cases h
    · cases h

theorem results_sound (hr : Rel E nt g F H tmps w) {fn : Func} {rs : List ARes} {ps : List PV} (hc : compRes P fn.results.toList = some rs) (h : ressOf F H rs = some ps) :
    ∃ v, (results fn tmps).run P w = .ok v w ∧ VR g H w (packed ps) v := by
  obtain ⟨vs, h1, h2, h3⟩ := ressOf_sound hr _ rs ps hc h
  have hm : (fn.results.mapM (resRun tmps)).run P w = .ok vs.toArray w := by
    have := mapM_run (P := P) (resRun tmps) w fn.results.toList vs (by rw [h1]) (fun i x y e1 e2 => h2 i x y e1 e2)
    rw [Array.mapM_eq_mapM_toList]
    simp [this]
  have key : (results fn tmps).run P w = .ok (if h : vs.toArray.size = 1 then vs.toArray[0] else .tuple vs.toArray) w := by
    rw [results_eq]
    simp [hm]
  rw [key]
  refine ⟨_, rfl, ?_⟩
  cases ps with
  | nil => simp only [VRs] at h3; subst h3; simp [packed, VR, VRs]
  | cons p r =>
    cases r with
    | nil =>
      simp only [VRs] at h3
      obtain ⟨v, vr, rfl, h4, rfl⟩ := h3
      simpa [packed] using h4
    | cons q r =>
      have h3' := h3
      simp only [VRs] at h3
      obtain ⟨v, vr, rfl, h4, v2, vr2, rfl, h5, h6⟩ := h3
      simp only [packed, VR]
      exact ⟨v :: v2 :: vr2, by simp, h3'⟩

/-- An operation's step, and then the rest. -/
theorem StepR.wp (h : StepR E nt g H a w o.dst F' H' ((execOp a.eval o).run P w)) {next : Act → World → Prop} {Q : Exit → Act → World → Prop}
    (hn : ∀ v w' g', Nx g g' H H' w w' → Rel E nt g' F' H' (a.put o.dst v).tmps w' → next (a.put o.dst v) w') : o.wp P a w next Q := by
  obtain ⟨v, w', g', hr, h1, h2⟩ := h
  unfold Oper.wp
  rcases hr with hr | ⟨hr, rfl⟩
  · rw [hr]; exact hn _ _ _ h1 h2
  · rw [hr]; exact hn _ _ _ h1 h2

theorem VRs_append : ∀ (l1 l2 : List PV) (v1 v2 : List Value), VRs g H w l1 v1 → VRs g H w l2 v2 → VRs g H w (l1 ++ l2) (v1 ++ v2)
  | [], l2, v1, v2, h1, h2 => by simp only [VRs] at h1; subst h1; exact h2
  | x :: r, l2, v1, v2, h1, h2 => by
    simp only [VRs] at h1
    obtain ⟨v, vr, rfl, h3, h4⟩ := h1
    simp only [List.cons_append, VRs]
    exact ⟨v, vr ++ v2, rfl, h3, VRs_append r l2 vr v2 h4 h2⟩

theorem VPs_keep {w w' : World} {I I' : Nat → Prop} (k : Keeps I I' w w') : ∀ (l : List PV) (vs : List Value), VPs I w l vs → VPs I' w' l vs
  | [], vs, h => by simpa only [VPs] using h
  | x :: r, vs, h => by
    simp only [VPs] at h ⊢
    obtain ⟨v, vr, e, h1, h2⟩ := h
    exact ⟨v, vr, e, VP1_keep k h1, VPs_keep k r vr h2⟩

theorem VP_keep {w w' : World} {I I' : Nat → Prop} (k : Keeps I I' w w') {x : PV} {v : Value} (h : VP I w x v) : VP I' w' x v := by
  cases x with
  | tup ps =>
    simp only [VP] at h ⊢
    obtain ⟨vs, e, h⟩ := h
    exact ⟨vs, e, VPs_keep k _ _ h⟩
  | _ => simp only [VP] at h ⊢; exact VP1_keep k h

theorem purR_sound {nt : Nat} {g : Gh} {F : Frm} {H : Hp} {tmps : Array Value} {w : World} (hr : Rel E nt g F H tmps w) {r q : PV} {v : Value} (h : VR g H w r v) (hq : purR H r = some q) :
    ∃ g' H', Rel E nt g' F H' tmps w ∧ Nx g g' H H' w w ∧ VP g'.I w q v := by
  unfold purR at hq
  split at hq
  · rename_i ps
    split at hq
    · rename_i qs H1 hp
      cases hq
      simp only [VR] at h
      obtain ⟨vs, rfl, h⟩ := h
      obtain ⟨g', h1, h2, _, _, h3⟩ := purifyAll_sound _ _ _ _ _ _ hr h hp
      exact ⟨g', H1, h1, h2, by simp only [VP]; exact ⟨vs, rfl, h3⟩⟩
    · cases hq
  · split at hq
    · rename_i x hx q' H1 hp
      cases hq
      obtain ⟨g', h1, h2, _, _, _, h3⟩ := purify_sound hr h hp
      refine ⟨g', H1, h1, h2, ?_⟩
      cases q <;> first | exact h3 | (simp only [VP1] at h3)
    · cases hq

/-- A run in a heap of its own. -/
theorem run_pure {call} (hc : InlineOk P E call) {I : Nat → Prop} {w : World} {f : Nat} {args : List PV} {vs : List Value} {r q : PV} {H : Hp} (himm : ∀ b, I b → b < w.heap.size)
    (hg : ∀ n x, E.glob n = some x → I n ∧ ∃ vs, 0 < vs.length ∧ RC I w x vs ∧ At w n 0 vs) (hv : VPs I w args vs) (hin : call f args [] = some (r, H)) (h : purR H r = some q) :
    CallR P f vs.toArray w fun v w' => Bel w.heap.size w w' ∧ VP (fun b => I b ∨ (w.heap.size ≤ b ∧ b < w'.heap.size)) w' q v := by
  let g0 : Gh := ⟨fun _ => none, fun _ => none, I⟩
  have hr : Rel E 0 g0 [] [] #[] w := by
    refine ⟨Nat.zero_le _, fun s fv e => by simp [fget] at e, fun id hb e => by simp at e, fun id id' hb b o b' o' e => by simp at e, fun id b o e => by simp [g0] at e, fun s s' b e => by simp [g0] at e, fun s b id o e => by simp [g0] at e, fun s b e => by simp [g0] at e, himm, hg⟩
  refine (hc f args [] r H hin 0 g0 [] #[] w vs hr (VRs_of_VPs (g := g0) _ _ hv)).mono ?_
  rintro v w' ⟨g', n1, r1, hvr⟩
  obtain ⟨g2, H2, r2, n2, hvp⟩ := purR_sound r1 hvr h
  have n3 := n1.trans n2
  have noR : ∀ b, ¬ RngR g0 b := fun b ⟨id, o, e⟩ => by simp [g0] at e
  have noM : ∀ b, ¬ MutF g0 b := fun b ⟨s, e⟩ => by simp [g0] at e
  refine ⟨⟨⟨n3.os, n3.tape, n3.output, n3.size, fun k hk => n3.kept k hk (noR k) (noM k)⟩, n3.drawn⟩, VP_keep (fun b hb => ⟨?_, rfl⟩) hvp⟩
  rcases Nat.lt_or_ge b w.heap.size with h1 | h1
  · rcases n3.immb b h1 hb with h2 | h2
    · exact .inl h2
    · exact absurd h2 (noR b)
  · exact .inr ⟨h1, r2.imm b hb⟩

theorem pureRes_sound (hE : EnvOk P E) {call} (hc : InlineOk P E call) (hr : Rel E nt g F H tmps w) {n : Nat} {ps : List PV} {vs : List Value} {r : PV} (hv : VPs g.I w ps vs) (h : pureRes E call n ps = some r) :
    CallR P n vs.toArray w fun v w' => Bel w.heap.size w w' ∧ VP (fun b => g.I b ∨ (w.heap.size ≤ b ∧ b < w'.heap.size)) w' r v := by
  unfold pureRes at h
  split at h
  · rename_i r' hs
    cases h
    exact hE.sum n ps _ hs g.I w vs hr.imm hr.glob hv
  · split at h
    · split at h
      · rename_i r0 H1 hcall
        exact run_pure hc hr.imm hr.glob hv hcall h
      · cases h
    · cases h

theorem callV_sound (hE : EnvOk P E) {call} (hc : InlineOk P E call) (hr : Rel E nt g F H tmps w) {f : PV} {fv : Value} {as : List PV} {vs : List Value} {r : PV} (h : callV E call f as H = some (r, H')) (hf : VR g H w f fv) (has : VRs g H w as vs) :
    ∃ (n : Nat) (first captured : List Value), fv = .func (.func n) first.toArray captured.toArray ∧
      CallR P n (first ++ vs ++ captured).toArray w fun v w' => ∃ g', Nx g g' H H' w w' ∧ Rel E nt g' F H' tmps w' ∧ VR g' H' w' r v := by
  unfold callV at h
  split at h
  · rename_i n first captured
    simp only [VR] at hf
    obtain ⟨fs, cs, rfl, hfs, hcs⟩ := hf
    refine ⟨n, fs, cs, rfl, ?_⟩
    have hall := VRs_append _ _ _ _ (VRs_append _ _ _ _ hfs has) hcs
    split at h
    · rename_i res hres
      split at hres
      · rename_i ps H1 hp
        split at hres
        · rename_i s hs
          obtain ⟨g1, r1, n1, b1, p1, v1⟩ := purifyAll_sound _ _ _ _ _ _ hr hall hp
          refine (pureRes_sound hE hc r1 v1 hs).mono fun v w' ⟨hb, hv⟩ => ?_
          split at hres
          · rename_i hsc
            cases hres; cases h
            obtain ⟨g2, h1, h2, _⟩ := hr.grew hb
            exact ⟨g2, h2, h1, scalar_VR hsc hv⟩
          · cases hres; cases h
            obtain ⟨g2, h1, h2, h3, h4, h5⟩ := r1.grew hb
            refine ⟨g2, n1.trans h2, h1, VR_of_VP ?_⟩
            rw [h5]; exact hv
        · cases hres
      · cases hres
    · split at h
      · cases h
      split at h
      · split at h
        · rename_i ps H1 hp
          obtain ⟨g1, r1, n1, b1, p1, v1⟩ := purifyAll_sound _ _ _ _ _ _ hr hall hp
          refine (hc n ps H1 r H' h nt g1 F tmps w _ r1 (VRs_of_VPs _ _ v1)).mono fun v w' ⟨g2, h1, h2, h3⟩ => ⟨g2, n1.trans h1, h2, h3⟩
        · cases h
      · exact hc n _ H r H' h nt g F tmps w _ hr hall
  · cases h

/-- A call's operation. -/
theorem op_call (hE : EnvOk P E) {call} (hc : InlineOk P E call) (hr : Rel E nt g F H a.tmps w) {c : Call} {f : Operand} {f' : Opd} {as' : List Opd} {out : Out} (ho : o.op = .call c) (hcal : c.callee = .value f) (hf : opd f = some f') (has : opds c.args.toList = some as')
    (h : opOut E call F H (.call f' as') = some out) (hd : ∀ d, o.dst = some d → d < nt) (hp : putDst (putBx F out.bx) o.dst out.x = some F') {next : Act → World → Prop} {Q : Exit → Act → World → Prop}
    (hn : ∀ v w' g', Nx g g' H out.h w w' → Rel E nt g' F' out.h (a.put o.dst v).tmps w' → next (a.put o.dst v) w') : o.wp P a w next Q := by
  simp only [opOut] at h
  split at h
  · rename_i fv av hfv hav
    split at h
    · rename_i r H1 hcall
      rw [outV_eq h] at hp hn
      obtain ⟨n, first, captured, hfe, hR⟩ := callV_sound hE hc hr hcall (evV_sound hr hf hfv) (evs_sound hr _ _ _ has hav)
      have hstep : ∀ v w' g', Nx g g' H H1 w w' → Rel E nt g' F H1 a.tmps w' → VR g' H1 w' r v → next (a.put o.dst v) w' := by
        intro v w' g' h1 h2 h3
        have := StepR.of (dst := o.dst) (a := a) (F' := F') (w := w) (g := g) (H := H) (r := .ok (.value v) w') (out := ⟨some (.v r), none, H1⟩) ⟨v, w', g', .inl rfl, h1, h2, h3⟩ hd hp (fun row e => by cases e)
        obtain ⟨v2, w2, g2, e, h4, h5⟩ := this
        rcases e with e | ⟨e, _⟩
        · cases e; exact hn _ _ _ h4 h5
        · cases e
      have hargs : (c.args.map a.eval) = (c.args.toList.map a.eval).toArray := by rw [← Array.toList_map]
      have hrun : (execOp a.eval o).run P w = (callFunc n (first ++ c.args.toList.map a.eval ++ captured).toArray).run P w := by
        have e2 : (first ++ c.args.toList.map a.eval ++ captured).toArray = first.toArray ++ c.args.map a.eval ++ captured.toArray := by rw [hargs]; simp
        rw [e2]
        simp [execOp, ho, resolve, hcal, hfe, Deferred.ofValue, invoke]
      unfold CallR at hR
      unfold Oper.wp
      rw [hrun]
      split at hR
      · rename_i v w' e
        rw [e]
        obtain ⟨g', h1, h2, h3⟩ := hR
        exact hstep v w' g' h1 h2 h3
      · rename_i f2 a2 w' e
        rw [e]
        simp only [Oper.upon]
        refine Calls.mono hR fun e w'' he => ?_
        cases e with
        | returned v => obtain ⟨g', h1, h2, h3⟩ := he; exact hstep v w'' g' h1 h2 h3
        | panicked _ => exact he.elim
        | outgrown => exact he.elim
      · exact hR.elim
    · cases h
  · cases h

theorem isCall_inv {loc : List Nat} (h : isCall (compOp P loc o) = true) : ∃ c f f' as', o.op = .call c ∧ c.callee = .value f ∧ opd f = some f' ∧ opds c.args.toList = some as' ∧ compOp P loc o = .call f' as' := by
  unfold compOp at h
  cases ho : o.op <;> rw [ho] at h <;> simp only [] at h
  case call c =>
    cases hc : c.callee with
    | value f =>
      rw [hc] at h
      simp only [] at h
      split at h
      · rename_i f' as' h1 h2
        refine ⟨c, f, f', as', rfl, hc, h1, h2, ?_⟩
        unfold compOp
        rw [ho]
        simp only [hc, h1, h2]
      · cases h
    | builtin b =>
      rw [hc] at h
      simp only [compBuiltin] at h
      repeat' split at h
      all_goals cases h
    | invoke _ _ => rw [hc] at h; cases h
  all_goals (try unfold compBin at h)
  all_goals (repeat' split at h)
  all_goals first | cases h | skip
end
end Go.Pf
