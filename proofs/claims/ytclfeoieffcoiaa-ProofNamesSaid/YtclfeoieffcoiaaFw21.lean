/- The framework, part 21: regions in an order; code; functions. Regions with a draw are left open ('DrawOk'). -/
import Derived.Test.YtclfeoieffcoiaaFw20
namespace Go.Pf
open Go Go.RowKit

section
variable {P : Program} {E : Env} {nt : Nat} {g g' : Gh} {F F' : Frm} {H H' : Hp} {a : Act} {tmps : Array Value} {w w' : World} {o : Oper}

/-- What is tested ahead of an operation. -/
def GuardR (all : Array Oper) (o : Oper) (gd : Option (Nat × Bool)) : Prop :=
  (o.guard = none ∧ gd = none) ∨ ∃ j want s, o.guard = some (j, want) ∧ (all[j]?).bind (·.dst) = some s ∧ gd = some (s, want)

theorem compOps_get {loc : List Nat} {all : Array Oper} : ∀ (l : List Oper) (r : List AOper), compOps P loc all l = some r →
    r.length = l.length ∧ ∀ (i : Nat) (o : Oper), l[i]? = some o → ∃ gd, r[i]? = some ⟨o.dst, compOp P loc o, gd⟩ ∧ GuardR all o gd
  | [], r, h => by
    simp [compOps] at h; subst h
    exact ⟨rfl, fun i o e => by simp at e⟩
  | x :: l, r, h => by
    simp only [compOps] at h
    split at h
    · rename_i l' hl
      obtain ⟨h1, h2⟩ := compOps_get l l' hl
      split at h
      · rename_i hg
        cases h
        refine ⟨by simp [h1], fun i o e => ?_⟩
        cases i with
        | zero => simp at e; subst e; exact ⟨none, rfl, .inl ⟨hg, rfl⟩⟩
        | succ i => simp at e; simpa using h2 i o e
      · rename_i j want hg
        split at h
        · rename_i s hs
          cases h
          refine ⟨by simp [h1], fun i o e => ?_⟩
          cases i with
          | zero => simp at e; subst e; exact ⟨some (s, want), rfl, .inr ⟨j, want, s, hg, hs, rfl⟩⟩
          | succ i => simp at e; simpa using h2 i o e
        · cases h
    · cases h

theorem guard_sound (hr : Rel E nt g F H a.tmps w) {all : Array Oper} {gd : Option (Nat × Bool)} {b : Bool} (hg : GuardR all o gd) (h : guardOk F gd = some b) : Region.wanted o (yielded all a.tmps) = b := by
  rcases hg with ⟨h1, rfl⟩ | ⟨j, want, s, h1, h2, rfl⟩
  · simp only [guardOk, Option.some.injEq] at h
    simp [Region.wanted, h1, ← h]
  · simp only [guardOk] at h
    split at h
    · rename_i b0 hb0
      have hv := hr.frame s _ hb0
      simp only [FRel, VR] at hv
      have : a.tmps[s]? = some (.bool b0) := by
        rw [Array.getD_eq_getD_getElem?] at hv
        cases e : a.tmps[s]? with
        | none => rw [e] at hv; simp [undef] at hv
        | some x => rw [e] at hv; simpa using hv
      have hy : yielded all a.tmps j = some b0 := by
        unfold yielded
        rw [h2]
        simp [this]
      simp only [Option.some.injEq] at h
      simp only [Region.wanted, h1, hy, ← h]
      cases b0 <;> cases want <;> rfl
    · rename_i hb0
      have hv := hr.frame s _ hb0
      simp only [FRel, VR, VRs] at hv
      obtain ⟨vs, hv, rfl⟩ := hv
      have hy : yielded all a.tmps j = none := by
        unfold yielded
        rw [h2]
        simp only [Option.bind_some]
        rw [Array.getD_eq_getD_getElem?] at hv
        cases e : a.tmps[s]? with
        | none => rfl
        | some x => rw [e] at hv; simp at hv; subst hv; rfl
      simp only [Option.some.injEq] at h
      simp only [Region.wanted, h1, hy, ← h]
      rfl
    · cases h

theorem put_defers (a : Act) (dst : Option Tmp) (v : Value) : (a.put dst v).defers = a.defers := by cases dst <;> rfl

theorem dstsB_get : ∀ (l : List Oper), dstsB nt l = true → ∀ (i : Nat) (o : Oper), l[i]? = some o → ∀ d, o.dst = some d → d < nt
  | [], _, i, o, e => by simp at e
  | x :: l, h, i, o, e => by
    simp only [dstsB, Bool.and_eq_true] at h
    cases i with
    | zero =>
      simp at e; subst e
      intro d hd
      have := h.1
      rw [hd] at this
      simpa using this
    | succ i => simp at e; exact dstsB_get l h.2 i o e

/-- One operation of a region. -/
theorem step_sound (hE : EnvOk P E) {call} (hc : InlineOk P E call) {ops : Array Oper} {loc : List Nat} {i : Nat} {rest : List Nat} {gd : Option (Nat × Bool)} {Q : Exit → Act → World → Prop}
    (hr : Rel E nt g F H a.tmps w) (ho : ops[i]? = some o) (hg : GuardR ops o gd) (hd : ∀ d, o.dst = some d → d < nt) (h : stepOp E call F H ⟨o.dst, compOp P loc o, gd⟩ = some (F', H'))
    (hn : ∀ v w' g', Nx g g' H H' w w' → Rel E nt g' F' H' (a.put o.dst v).tmps w' → wpOps P ops Q rest (a.put o.dst v) w') : wpOps P ops Q (i :: rest) a w := by
  simp only [wpOps, ho]
  unfold stepOp at h
  split at h
  · cases h
  · rename_i hgd
    rw [if_neg (by rw [guard_sound hr hg hgd]; simp)]
    cases hdst : o.dst with
    | none =>
      rw [hdst] at h; simp only [Option.some.injEq, Prod.mk.injEq] at h
      obtain ⟨rfl, rfl⟩ := h
      have := hn undef w g (Nx.refl g H w)
      rw [hdst] at this
      exact this hr
    | some d =>
      rw [hdst] at h; simp only [Option.some.injEq, Prod.mk.injEq] at h
      obtain ⟨rfl, rfl⟩ := h
      have := hn undef w g (Nx.refl g H w)
      rw [hdst] at this
      refine this ?_
      rw [put_tmps]
      exact hr.putV (hd d hdst) (by simp [VR, VRs, undef])
  · rename_i hgd
    rw [if_pos (guard_sound hr hg hgd)]
    left
    split at h
    · cases h
    · rename_i out x bx H1 hout
      simp only [Option.map_eq_some_iff] at h
      obtain ⟨F1, hp, e⟩ := h
      cases e
      by_cases hcall : isCall (compOp P loc o) = true
      · obtain ⟨c, f, f', as', h1, h2, h3, h4, h5⟩ := isCall_inv hcall
        simp only [h5] at hout
        exact op_call hE hc hr h1 h2 h3 h4 hout hd hp hn
      · exact StepR.wp (op_sound hr (by simpa using hcall) hout hd hp) hn

theorem runOps_sound (hE : EnvOk P E) {call} (hc : InlineOk P E call) {ops : Array Oper} {loc : List Nat} {l : List AOper} {Q : Exit → Act → World → Prop} {F' : Frm} {H' : Hp} (hl : compOps P loc ops ops.toList = some l) (hd : dstsB nt ops.toList = true) :
    ∀ (σ : List Nat) (g : Gh) (F : Frm) (H : Hp) (a : Act) (w : World), (∀ i ∈ σ, i < ops.size) → Rel E nt g F H a.tmps w → runOps E call (σ.filterMap (l[·]?)) F H = some (F', H') →
      (∀ a' w' g', a'.defers = a.defers → Nx g g' H H' w w' → Rel E nt g' F' H' a'.tmps w' → Q .normal a' w') → wpOps P ops Q σ a w
  | [], g, F, H, a, w, _, hr, h, hq => by
    simp only [List.filterMap_nil, runOps, Option.some.injEq, Prod.mk.injEq] at h
    obtain ⟨rfl, rfl⟩ := h
    exact hq a w g rfl (Nx.refl g H w) hr
  | i :: σ, g, F, H, a, w, hσ, hr, h, hq => by
    obtain ⟨hlen, hget⟩ := compOps_get _ _ hl
    have hi : i < ops.size := hσ i (by simp)
    have hoi : ops[i]? = some ops[i] := by simp [hi]
    have hoi' : ops.toList[i]? = some ops[i] := by simp [hi]
    obtain ⟨gd, hli, hgd⟩ := hget i _ hoi'
    rw [List.filterMap_cons, hli] at h
    simp only [runOps] at h
    split at h
    · rename_i F1 H1 hs
      refine step_sound hE hc hr hoi hgd (dstsB_get _ hd i _ hoi') hs fun v w1 g1 n1 r1 => ?_
      exact runOps_sound hE hc hl hd σ g1 F1 H1 _ w1 (fun j hj => hσ j (by simp [hj])) r1 h fun a' w' g' hdf n2 r2 => hq a' w' g' (hdf.trans (put_defers _ _ _)) (n1.trans n2) r2
    · cases h

theorem range_filterMap {α : Type} (l : List α) : (List.range l.length).filterMap (l[·]?) = l := by
  induction l with
  | nil => rfl
  | cons x l ih =>
    rw [List.length_cons, List.range_succ_eq_map, List.filterMap_cons]
    simp only [List.getElem?_cons_zero]
    rw [List.filterMap_map]
    congr 1

/-- How a piece of code ended. -/
def ExR : Ex → Exit → Prop
  | .norm, .normal => True
  | .exit i, .exit j => i = j
  | .ret, .ret => True
  | _, _ => False

def PostR (E : Env) (nt : Nat) (g : Gh) (H : Hp) (w : World) (ex : Ex) (F' : Frm) (H' : Hp) : Exit → Act → World → Prop :=
  fun e a' w' => ExR ex e ∧ a'.defers = [] ∧ ∃ g', Nx g g' H H' w w' ∧ Rel E nt g' F' H' a'.tmps w'

/-- Regions with a draw are sound. -/
def DrawOk (P : Program) (E : Env) (call : Nat → List PV → Hp → Option (PV × Hp)) : Prop :=
  ∀ (nt : Nat) (g : Gh) (F : Frm) (H : Hp) (a : Act) (w : World) (loc : List Nat) (ops : Array Oper) (l : List AOper) (F' : Frm) (H' : Hp) (id : Nat),
    compOps P loc ops ops.toList = some l → dstsB nt ops.toList = true → edgesBack ops.toList = true →
    runReg E call l (freePairs (closeB ops.toList [])) F H = some (F', H') → Rel E nt g F H a.tmps w → a.defers = [] →
    (Code.region id ops true).wp P (PostR E nt g H w .norm F' H') a w

theorem region_sound (hE : EnvOk P E) {call} (hc : InlineOk P E call) {ops : Array Oper} {loc : List Nat} {l : List AOper} {id : Nat} (hl : compOps P loc ops ops.toList = some l) (hd : dstsB nt ops.toList = true)
    (h : runOps E call l F H = some (F', H')) (hr : Rel E nt g F H a.tmps w) (hdf : a.defers = []) : (Code.region id ops false).wp P (PostR E nt g H w .norm F' H') a w := by
  refine wp_region (runOps_sound (F' := F') (H' := H') hE hc hl hd _ g F H a w (fun i hi => by simpa using hi) hr ?_ ?_)
  · have hlen := (compOps_get _ _ hl).1
    have : ops.size = l.length := by simpa using hlen.symm
    rw [this, range_filterMap]
    exact h
  · intro a' w' g' h1 h2 h3
    exact ⟨trivial, h1.trans hdf, g', h2, h3⟩

theorem PostR.fdels {g : Gh} {ex : Ex} {e : Exit} {fs : List Nat} {a' : Act} (h : PostR E nt g H w ex F' H' e a' w') : PostR E nt g H w ex (fdels F' fs) H' e a' w' := by
  obtain ⟨h1, h2, g', h3, h4⟩ := h
  exact ⟨h1, h2, g', h3, h4.less fun s x hs => fget_fdels fs F' s x hs⟩

theorem PostR.trans {g g1 : Gh} {H1 : Hp} {w1 : World} {ex : Ex} {e : Exit} {a' : Act} (hn : Nx g g1 H H1 w w1) (h : PostR E nt g1 H1 w1 ex F' H' e a' w') : PostR E nt g H w ex F' H' e a' w' := by
  obtain ⟨h1, h2, g', h3, h4⟩ := h
  exact ⟨h1, h2, g', hn.trans h3, h4⟩

def ExecOk (P : Program) (E : Env) (n : Nat) : Prop :=
  ∀ (loc : List Nat) (fg : Nat → List Nat) (nt : Nat) (c : Code) (g : Gh) (F : Frm) (H : Hp) (a : Act) (w : World) (ex : Ex) (F' : Frm) (H' : Hp),
    exec E n (compCode P loc fg nt c) F H = some (ex, F', H') → Rel E nt g F H a.tmps w → a.defers = [] → c.wp P (PostR E nt g H w ex F' H') a w
def LoopOk (P : Program) (E : Env) (n : Nat) : Prop :=
  ∀ (loc : List Nat) (fg : Nat → List Nat) (nt : Nat) (c : Code) (g : Gh) (F : Frm) (H : Hp) (a : Act) (w : World) (ex : Ex) (F' : Frm) (H' : Hp),
    exec E n (.loop (compCode P loc fg nt c)) F H = some (ex, F', H') → Rel E nt g F H a.tmps w → a.defers = [] →
    ∀ (b : Frame) (k : List Item) (cs : List Frame), ∃ e a' w', PostR E nt g H w ex F' H' e a' w' ∧ Arrives P (lone (b.at a (.code c :: .inLoop c :: k)) cs w) b k cs e a' w'

theorem inline_sound (hE : EnvOk P E) {n : Nat} (hx : ExecOk P E n) : InlineOk P E (inline E (n + 1)) := by
  intro f args H r H' h nt g F tmps w vs hr hv
  simp only [inline] at h
  split at h
  · rename_i x he
    cases h
    exact hE.eff f args H r H' he nt g F tmps w vs hr hv
  split at h
  · rename_i fn hfn
    obtain ⟨fu, loc, fg, hfu, hcomp⟩ := hE.fns f fn hfn
    unfold compFn at hcomp
    split at hcomp
    · rename_i c rs hb hrs
      split at hcomp
      · cases hcomp
      · rename_i hname
        cases hcomp
        simp only [] at h
        split at h
        · have hbase := hr.enter hv fu.ntmps
          have hcf : (callFunc f vs.toArray).run P w = .ok (.enter f vs.toArray) w := by
            have hname' : ¬ fu.name = "runtime.NumGoroutine" := by simpa using hname
            simp [callFunc, hfu, hname', hb]
          unfold CallR
          rw [hcf]
          simp only []
          have fin : ∀ ex F2 H2, exec E n (compCode P loc fg fu.ntmps c) (frame0 0 args) H = some (ex, F2, H2) → (ex = .norm ∨ ex = .ret) → (∃ ps, ressOf F2 H2 rs = some ps ∧ packed ps = r ∧ H2 = H') →
              Calls P f vs.toArray w (fun e w'' => match e with | .returned v => ∃ g', Nx g g' H H' w w'' ∧ Rel E nt g' F H' tmps w'' ∧ VR g' H' w'' r v | _ => False) := by
            intro ex F2 H2 he hex ⟨ps, hps, hpk, e2⟩
            subst hpk; subst e2
            have hbody := hx loc fg fu.ntmps c _ _ _ ⟨vs.toArray ++ Array.replicate (fu.ntmps - vs.toArray.size) undef, []⟩ w ex F2 H2 he hbase rfl
            refine calls_of_wp hfu hb (wp_mono hbody fun e a' w' hp => ?_)
            obtain ⟨h1, h2, g2, h3, h4⟩ := hp
            obtain ⟨v, hv1, hv2⟩ := results_sound (P := P) h4 hrs hps
            obtain ⟨r3, n3⟩ := hr.back h3 h4
            have hon2 : On g2 { g2 with β := g.β } H2 H2 w' w' := ⟨fun _ x => ⟨x, rfl⟩, fun _ hb x => ⟨hb, x, rfl, rfl, .inr ⟨rfl, rfl⟩⟩, fun _ cur _ x => ⟨cur, x, rfl⟩⟩
            rcases hex with rfl | rfl <;> cases e <;> simp only [ExR] at h1
            · exact ⟨h2, v, hv1, _, n3, r3, VR_on hon2 _ _ hv2⟩
            · exact ⟨h2, v, hv1, _, n3, r3, VR_on hon2 _ _ hv2⟩
          split at h
          · rename_i F2 H2 he
            split at h
            · rename_i ps hps
              cases h
              exact fin _ F2 _ he (.inl rfl) ⟨ps, hps, rfl, rfl⟩
            · cases h
          · rename_i F2 H2 he
            split at h
            · rename_i ps hps
              cases h
              exact fin _ F2 _ he (.inr rfl) ⟨ps, hps, rfl, rfl⟩
            · cases h
          · cases h
        · cases h
    · cases hcomp
  · cases h

theorem exec_sound (hE : EnvOk P E) (hdraw : ∀ call, InlineOk P E call → DrawOk P E call) : ∀ n, ExecOk P E n ∧ LoopOk P E n ∧ InlineOk P E (inline E n) := by
  intro n
  induction n with
  | zero =>
    refine ⟨?_, ?_, ?_⟩
    · intro loc fg nt c g F H a w ex F' H' h; simp [exec] at h
    · intro loc fg nt c g F H a w ex F' H' h; simp [exec] at h
    · intro f args H r H' h; simp [inline] at h
  | succ n ih =>
    obtain ⟨ihx, ihl, ihi⟩ := ih
    have hloop : LoopOk P E (n + 1) := by
      intro loc fg nt c g F H a w ex F' H' h hr hdf b k cs
      simp only [exec] at h
      split at h
      · rename_i F1 H1 h1
        obtain ⟨e, a1, w1, ⟨hp1, hp2, g1, hn1, hr1⟩, harr⟩ := ihx loc fg nt c g F H a w _ _ _ h1 hr hdf b (.inLoop c :: k) cs
        cases e <;> simp only [ExR] at hp1
        obtain ⟨e2, a2, w2, hq2, harr2⟩ := ihl loc fg nt c g1 F1 H1 a1 w1 ex F' H' h hr1 hp2 b k cs
        exact ⟨e2, a2, w2, hq2.trans hn1, .of_steps (Steps.trans harr (.one step_inLoop)) harr2⟩
      · rename_i hne
        obtain ⟨e, a1, w1, hp, harr⟩ := ihx loc fg nt c g F H a w _ _ _ h hr hdf b (.inLoop c :: k) cs
        have hex : ex ≠ .norm := fun e => hne F' H' (by rw [h, e])
        refine ⟨e, a1, w1, hp, .pass (x := .inLoop c) rfl (fun _ _ => .inl (fun e1 => ?_)) harr⟩
        subst e1
        have := hp.1
        cases ex <;> simp [ExR] at this
        exact hex rfl
    refine ⟨?_, hloop, inline_sound hE ihx⟩
    intro loc fg nt c g F H a w ex F' H' h hr hdf
    cases c with
    | skip =>
      simp only [compCode, exec, Option.some.injEq, Prod.mk.injEq] at h
      obtain ⟨rfl, rfl, rfl⟩ := h
      exact wp_skip ⟨trivial, hdf, g, Nx.refl g H w, hr⟩
    | label l =>
      simp only [compCode, exec, Option.some.injEq, Prod.mk.injEq] at h
      obtain ⟨rfl, rfl, rfl⟩ := h
      exact wp_label ⟨trivial, hdf, g, Nx.refl g H w, hr⟩
    | exit id =>
      simp only [compCode, exec, Option.some.injEq, Prod.mk.injEq] at h
      obtain ⟨rfl, rfl, rfl⟩ := h
      exact wp_exit ⟨rfl, hdf, g, Nx.refl g H w, hr⟩
    | ret =>
      simp only [compCode, exec, Option.some.injEq, Prod.mk.injEq] at h
      obtain ⟨rfl, rfl, rfl⟩ := h
      exact wp_ret ⟨trivial, hdf, g, Nx.refl g H w, hr⟩
    | region id ops draw =>
      simp only [compCode] at h
      split at h
      · rename_i l hl
        split at h
        · rename_i hds
          cases draw with
          | true =>
            simp only [if_true] at h
            split at h
            · rename_i heb
              simp only [exec] at h
              split at h
              · rename_i F1 H1 hrun
                cases h
                exact wp_mono (hdraw _ ihi nt g F H a w loc ops l F1 _ id hl hds heb hrun hr hdf) fun e a' w' hp => hp.fdels
              · cases h
            · simp [exec] at h
          | false =>
            simp only [Bool.false_eq_true, if_false] at h
            simp only [exec, runReg] at h
            split at h
            · rename_i F1 H1 hrun
              cases h
              exact wp_mono (region_sound hE ihi hl hds hrun hr hdf) fun e a' w' hp => hp.fdels
            · cases h
        · simp [exec] at h
      · simp [exec] at h
    | seq x y =>
      simp only [compCode, exec] at h
      split at h
      · rename_i F1 H1 h1
        refine wp_seq (wp_mono (ihx loc fg nt x g F H a w _ _ _ h1 hr hdf) fun e a1 w1 hp => ?_)
        obtain ⟨hp1, hp2, g1, hn1, hr1⟩ := hp
        cases e <;> simp only [ExR] at hp1
        exact wp_mono (ihx loc fg nt y g1 F1 H1 a1 w1 _ _ _ h hr1 hp2) fun e a' w' hp => hp.trans hn1
      · rename_i hne
        refine wp_seq (wp_mono (ihx loc fg nt x g F H a w _ _ _ h hr hdf) fun e a1 w1 hp => ?_)
        have hex : ex ≠ .norm := fun e => hne F' H' (by rw [h, e])
        cases e with
        | normal => cases ex <;> first | exact absurd rfl hex | exact (hp.1).elim
        | _ => exact hp
    | cond x y z =>
      simp only [compCode] at h
      split at h
      · rename_i x' hx
        simp only [exec] at h
        split at h
        · rename_i hb
          have := evV_sound hr hx hb
          simp only [VR] at this
          exact wp_cond_true this (ihx loc fg nt y g F H a w _ _ _ h hr hdf)
        · rename_i hb
          have := evV_sound hr hx hb
          simp only [VR] at this
          exact wp_cond_false this (ihx loc fg nt z g F H a w _ _ _ h hr hdf)
        · cases h
      · simp [exec] at h
    | block id x =>
      simp only [compCode, exec] at h
      split at h
      · rename_i i F1 H1 h1
        refine wp_block (wp_mono (ihx loc fg nt x g F H a w _ _ _ h1 hr hdf) fun e a1 w1 hp => ?_)
        obtain ⟨hp1, hp2, hp3⟩ := hp
        cases e <;> simp only [ExR] at hp1
        subst hp1
        split at h
        · rename_i hi
          cases h
          simp only [Exit.inBlock, hi, if_true]
          exact ⟨trivial, hp2, hp3⟩
        · rename_i hi
          cases h
          simp only [Exit.inBlock, hi, if_false]
          exact ⟨rfl, hp2, hp3⟩
      · rename_i hne
        refine wp_block (wp_mono (ihx loc fg nt x g F H a w _ _ _ h hr hdf) fun e a1 w1 hp => ?_)
        cases e with
        | exit j =>
          obtain ⟨hp1, _⟩ := hp
          cases ex <;> simp only [ExR] at hp1
          exact absurd h (hne _ F' H')
        | _ => exact hp
    | loop x =>
      intro b k cs
      obtain ⟨e, a', w', hq, harr⟩ := hloop loc fg nt x g F H a w ex F' H' (by simpa only [compCode] using h) hr hdf b k cs
      exact ⟨e, a', w', hq, .of_steps (.one step_loop) harr⟩
    | _ => simp [compCode, exec] at h
end
end Go.Pf
