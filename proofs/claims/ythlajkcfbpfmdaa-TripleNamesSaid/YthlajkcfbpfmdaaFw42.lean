/- The framework, part 42: what is raised, and caught. A number that is not zero is raised as a value of a type 'T'; regions that raise have one order. -/
import Derived.Test.YthlajkcfbpfmdaaFw27
namespace Go.Pf
open Go Go.RowKit

/-- What is raised. -/
abbrev pch (T : TypeId) (k : Int) : List PanicEntry := [{ v := .iface T (.int .i64 k), recovered := false }]

/-! The evaluator. -/

/-- The operations that raise a number. -/
def rzPat (E : Env) (F : Frm) : List AOper → Option Int
  | [⟨some _, .mv x, none⟩, ⟨some _, .bad, none⟩, ⟨none, .bad, none⟩] => (match evV E F x with | some (.int .i64 k) => some k | _ => none)
  | _ => none
/-- A call among the operations raises. -/
def rzOps (E : Env) (call : Nat → List PV → Hp → Option (PV × Hp)) (rz : Nat → List PV → Hp → Option (Int × Hp)) : List AOper → Frm → Hp → Option (Int × Hp)
  | [], _, _ => none
  | o :: r, F, H =>
    match stepOp E call F H o with
    | some (F', H') => rzOps E call rz r F' H'
    | none => (match o with
      | ⟨_, .call f as, none⟩ => (match evV E F f, evs E F as with
        | some (.fn (.func n) [] []), some vs => rz n vs H
        | _, _ => none)
      | _ => none)
mutual
def execR (E : Env) (rl : List Nat) : Nat → ACode → Frm → Hp → Option (Int × Hp)
  | 0, _, _, _ => none
  | n + 1, c, F, H =>
    match c with
    | .ops l [] _ => (match rzPat E F l with
      | some k => some (k, H)
      | none => rzOps E (inline E n) (inlineR E rl n) l F H)
    | .seq a b => (match exec E n a F H with
      | some (.norm, F', H') => execR E rl n b F' H'
      | some _ => none
      | none => execR E rl n a F H)
    | .cond x a b => (match evV E F x with
      | some (.bool true) => execR E rl n a F H
      | some (.bool false) => execR E rl n b F H
      | _ => none)
    | .block _ b => execR E rl n b F H
    | .loop b => (match exec E n b F H with
      | some (.norm, F', H') => execR E rl n (.loop b) F' H'
      | some _ => none
      | none => execR E rl n b F H)
    | _ => none
def inlineR (E : Env) (rl : List Nat) : Nat → Nat → List PV → Hp → Option (Int × Hp)
  | 0, _, _, _ => none
  | n + 1, f, args, H =>
    bif memN rl f then (match E.fns f with
      | some fn => if args.length = fn.nparams then execR E rl n fn.body (frame0 0 args) H else none
      | none => none) else none
end

/-! The program's regions. -/
def isMk (T : TypeId) (d : Nat) (b : Oper) : Bool :=
  match b.op with
  | .makeInterface T' (.tmp t) => Nat.beq T' T && Nat.beq t d
  | _ => false
def isPn (d : Nat) (c : Oper) : Bool :=
  match c.op with
  | .panic (.tmp t) => Nat.beq t d
  | _ => false
def isMv (a : Oper) : Bool :=
  match a.op with
  | .move _ => true
  | _ => false
def isRz (T : TypeId) (a b c : Oper) : Bool :=
  (a.guard.isNone && (b.guard.isNone && c.guard.isNone)) && (isMv a && (match a.dst with | some d1 => isMk T d1 b | none => false) && (match b.dst with | some d2 => isPn d2 c | none => false))
def isBad : AOp → Bool
  | .bad => true
  | _ => false
def panR (P : Program) (loc : List Nat) (T : TypeId) (ops : Array Oper) (draw : Bool) : Bool :=
  (!draw || !(freePairs (closeB ops.toList [])).isEmpty) &&
  (match ops.toList with
   | [a, b, c] => isRz T a b c || !(isBad (compOp P loc b) && isBad (compOp P loc c))
   | _ => true)
def isYr : Code → Code → Bool
  | .region _ _ false, .cond (.tmp _) .ret .skip => true
  | _, _ => false
def panC (P : Program) (loc : List Nat) (T : TypeId) : Code → Bool
  | .region _ ops draw => panR P loc T ops draw
  | .seq a b => !isYr a b && (panC P loc T a && panC P loc T b)
  | .cond _ a b => panC P loc T a && panC P loc T b
  | .block _ b => panC P loc T b
  | .loop b => panC P loc T b
  | .scope b => panC P loc T b
  | _ => true
/-- The functions that may raise. -/
def RlOk (P : Program) (E : Env) (T : TypeId) : List Nat → Prop
  | [] => True
  | n :: r => (∃ fu loc fg fn, P.funcs[n]? = some fu ∧ E.fns n = some fn ∧ compFn P loc fg fu = some fn ∧ (fu.body.map fun c => panC P loc T c) = some true) ∧ RlOk P E T r
theorem RlOk.get {P : Program} {E : Env} {T : TypeId} {n : Nat} : ∀ {rl : List Nat}, RlOk P E T rl → memN rl n = true → ∃ fu loc fg c fn, P.funcs[n]? = some fu ∧ E.fns n = some fn ∧ compFn P loc fg fu = some fn ∧ fu.body = some c ∧ panC P loc T c = true
  | [], _, h => by cases h
  | k :: r, hl, h => by
    simp only [memN] at h
    cases hb : Nat.beq k n with
    | true =>
      have e := Nat.eq_of_beq_eq_true hb
      subst e
      obtain ⟨fu, loc, fg, fn, h1, h2, h3, h4⟩ := hl.1
      obtain ⟨c, h5, h6⟩ := Option.map_eq_some_iff.1 h4
      exact ⟨fu, loc, fg, c, fn, h1, h2, h3, h5, h6⟩
    | false => rw [hb] at h; exact RlOk.get hl.2 h

section
variable {P : Program} {E : Env} {nt : Nat} {g g' : Gh} {F F' : Frm} {H H' : Hp} {a : Act} {tmps : Array Value} {w w' : World} {o : Oper} {T : TypeId} {rl : List Nat}

/-- A call that raises. -/
def RzOk (P : Program) (E : Env) (T : TypeId) (rz : Nat → List PV → Hp → Option (Int × Hp)) : Prop :=
  ∀ (f : Nat) (args : List PV) (H : Hp) (k : Int) (H' : Hp), rz f args H = some (k, H') →
    ∀ (nt : Nat) (g : Gh) (F : Frm) (tmps : Array Value) (w : World) (vs : List Value), Rel E nt g F H tmps w → Lps P E g H w → VRs g H w args vs →
      (callFunc f vs.toArray).run P w = .ok (.enter f vs.toArray) w ∧ Calls P f vs.toArray w fun e w' => e = .panicked (pch T k) ∧ inK .i64 k ∧ ∃ g', Nx g g' H H' w w' ∧ Rel E nt g' F H' tmps w'

theorem Rel.bare (h : Rel E nt g F H tmps w) {nt2 : Nat} {tmps2 : Array Value} (hs : nt2 ≤ tmps2.size) : Rel E nt2 g [] H tmps2 w :=
  { h with size := hs, frame := fun s fv e => by simp [fget] at e }

theorem rz_call {rz : Nat → List PV → Hp → Option (Int × Hp)} (hz : RzOk P E T rz) (hr : Rel E nt g F H a.tmps w) (hL : Lps P E g H w) {c : Call} {f : Operand} {f' : Opd} {as' : List Opd} {n : Nat} {vs : List PV} {k : Int}
    (ho : o.op = .call c) (hcal : c.callee = .value f) (hf : opd f = some f') (has : opds c.args.toList = some as') (hfv : evV E F f' = some (.fn (.func n) [] [])) (hav : evs E F as' = some vs) (h : rz n vs H = some (k, H'))
    {next : Act → World → Prop} {Q : Exit → Act → World → Prop} (hq : ∀ w' g', inK .i64 k → Nx g g' H H' w w' → Rel E nt g' F H' a.tmps w' → Q (.panic (pch T k)) a w') : o.wpIn (Fc none) 0 P a w next Q := by
  refine ⟨fun _ _ => trivial, ?_⟩
  rw [Oper.semAt_eq _ _ _ (fun c' e => by rw [ho] at e; cases e)]
  have hfe := evV_sound hr hf hfv
  simp only [VR, VRs] at hfe
  obtain ⟨as, bs, hfe, rfl, rfl, _⟩ := hfe
  obtain ⟨h1, h2⟩ := hz n vs H k H' h nt g F a.tmps w _ hr hL (evs_sound hr _ _ _ has hav)
  have hargs : (c.args.map a.eval) = (c.args.toList.map a.eval).toArray := by rw [← Array.toList_map]
  have hrun : (execOp a.eval o).run P w = (callFunc n (c.args.toList.map a.eval).toArray).run P w := by
    rw [← hargs]
    simp [execOp, ho, resolve, hcal, hfe, Gh.tr, Deferred.ofValue, invoke]
  rw [hrun, h1]
  simp only [Oper.uponIn]
  refine ⟨fun h => by simp [Fence.wide] at h, callsIn_fc.2 (Calls.mono h2 fun e w'' he => ?_)⟩
  obtain ⟨rfl, hk, g', n1, r1⟩ := he
  exact hq w'' g' hk n1 r1

theorem rzOps_sound (hE : EnvOk P E) {call} (hc : InlineOk P E call) {rz : Nat → List PV → Hp → Option (Int × Hp)} (hz : RzOk P E T rz) {ops : Array Oper} {loc : List Nat} {l : List AOper} {Q : Exit → Act → World → Prop} {k : Int} {H' : Hp}
    (hl : compOps P loc ops ops.toList = some l) (hd : dstsB nt ops.toList = true) :
    ∀ (σ : List Nat) (g : Gh) (F : Frm) (H : Hp) (a : Act) (w : World), (∀ i ∈ σ, i < ops.size) → Rel E nt g F H a.tmps w → Lps P E g H w → rzOps E call rz (σ.filterMap (l[·]?)) F H = some (k, H') →
      (∀ a' w' g', inK .i64 k → GoD E a a' → Nx g g' H H' w w' → Rel E nt g' [] H' a'.tmps w' → Q (.panic (pch T k)) a' w') → wpOpsIn (Fc none) 0 P ops Q σ a w
  | [], g, F, H, a, w, _, _, _, h, _ => by
    simp [rzOps] at h
  | i :: σ, g, F, H, a, w, hσ, hr, hL, h, hq => by
    obtain ⟨hlen, hget⟩ := compOps_get _ _ hl
    have hi : i < ops.size := hσ i (by simp)
    have hoi : ops[i]? = some ops[i] := by simp [hi]
    have hoi' : ops.toList[i]? = some ops[i] := by simp [hi]
    obtain ⟨gd, hli, hgd⟩ := hget i _ hoi'
    rw [List.filterMap_cons, hli] at h
    simp only [rzOps] at h
    split at h
    · rename_i F1 H1 hs
      refine step_sound hE hc hr hL hoi hgd (dstsB_get _ hd i _ hoi') hs (fun _ => rfl) fun a1 w1 g1 d1 n1 r1 => ?_
      exact rzOps_sound hE hc hz hl hd σ g1 F1 H1 a1 w1 (fun j hj => hσ j (by simp [hj])) r1 (hL.nx n1) h fun a' w' g' hk hdf n2 r2 => hq a' w' g' hk (d1.trans hdf) (n1.trans n2) r2
    · split at h
      · rename_i d f as heq
        cases hcomp : compOp P loc ops[i] with
        | call f2 as2 =>
          rw [hcomp] at heq
          simp only [AOper.mk.injEq, AOp.call.injEq] at heq
          obtain ⟨_, ⟨rfl, rfl⟩, rfl⟩ := heq
          split at h
          · rename_i n vs hfv hav
            obtain ⟨c, f3, f', as', h1, h2, h3, h4, h5⟩ := isCall_inv (P := P) (loc := loc) (o := ops[i]) (by rw [hcomp]; rfl)
            rw [hcomp] at h5
            cases h5
            simp only [wpOpsIn, hoi]
            have hgn : ops[i].guard = none := by
              rcases hgd with ⟨h6, _⟩ | ⟨_, _, _, _, _, h6⟩
              · exact h6
              · cases h6
            rw [if_pos (by simp [Region.wanted, hgn])]
            exact rz_call hz hr hL h1 h2 h3 h4 hfv hav h fun w' g' hk n1 r1 => hq a w' g' hk (GoD.same rfl) n1 (r1.bare r1.size)
          · cases h
        | _ => rw [hcomp] at heq; simp at heq
      · cases h

/-- How code that raises ends. -/
def PostZ (E : Env) (nt base : Nat) (g : Gh) (H : Hp) (w : World) (T : TypeId) (k : Int) (H' : Hp) : Exit → Act → World → Prop :=
  fun e a' w' => e = .panic (pch T k) ∧ inK .i64 k ∧ ∃ g', Nx g g' H H' w w' ∧ Rel E nt g' [] H' a'.tmps w' ∧ DfOk E base g' w' a'.defers
theorem PostZ.trans {base : Nat} {g1 : Gh} {H1 : Hp} {w1 : World} {k : Int} {e : Exit} {a' : Act} (hn : Nx g g1 H H1 w w1) (h : PostZ E nt base g1 H1 w1 T k H' e a' w') : PostZ E nt base g H w T k H' e a' w' := by
  obtain ⟨h1, h2, g', h3, h4, h5⟩ := h
  exact ⟨h1, h2, g', hn.trans h3, h4, h5⟩

theorem rzPat_inv {l : List AOper} {k : Int} (h : rzPat E F l = some k) : ∃ d1 x d2, l = [⟨some d1, .mv x, none⟩, ⟨some d2, .bad, none⟩, ⟨none, .bad, none⟩] ∧ evV E F x = some (.int .i64 k) := by
  unfold rzPat at h
  split at h
  · rename_i d1 x d2
    split at h
    · rename_i k' hx
      cases h
      exact ⟨d1, x, d2, rfl, hx⟩
    · cases h
  · cases h
theorem isMv_inv {a : Oper} (h : isMv a = true) : ∃ y, a.op = .move y := by
  unfold isMv at h
  split at h
  · rename_i y e; exact ⟨y, e⟩
  · cases h
theorem isMk_inv {d : Nat} {b : Oper} (h : isMk T d b = true) : b.op = .makeInterface T (.tmp d) := by
  unfold isMk at h
  split at h
  · rename_i T' t e
    simp only [Bool.and_eq_true] at h
    rw [e, Nat.eq_of_beq_eq_true h.1, Nat.eq_of_beq_eq_true h.2]
  · cases h
theorem isPn_inv {d : Nat} {c : Oper} (h : isPn d c = true) : c.op = .panic (.tmp d) := by
  unfold isPn at h
  split at h
  · rename_i t e
    rw [e, Nat.eq_of_beq_eq_true h]
  · cases h
/-- A region that raises. -/
theorem rz_pat {base id : Nat} {ops : Array Oper} {loc : List Nat} {l : List AOper} {k : Int} (hl : compOps P loc ops ops.toList = some l) (hp : rzPat E F l = some k) (hpan : panR P loc T ops false = true) (hd : dstsB nt ops.toList = true)
    (hr : Rel E nt g F H a.tmps w) (hdf : DfOk E base g w a.defers) (hT : ∀ (v : Value) (w : World), (Instr.makeInterface T v).run P w = .ok (.iface T v) w) : (Code.region id ops false).wpIn (Fc none) 0 P (PostZ E nt base g H w T k H) a w := by
  obtain ⟨hlen, hget⟩ := compOps_get _ _ hl
  obtain ⟨d1, x, d2, rfl, hx⟩ := rzPat_inv hp
  obtain ⟨os⟩ := ops
  simp only [List.length_cons, List.length_nil] at hlen
  obtain ⟨oa, os, rfl⟩ : ∃ y r, os = y :: r := by cases os with | nil => simp at hlen | cons y r => exact ⟨y, r, rfl⟩
  obtain ⟨ob, os, rfl⟩ : ∃ y r, os = y :: r := by cases os with | nil => simp at hlen | cons y r => exact ⟨y, r, rfl⟩
  obtain ⟨oc, os, rfl⟩ : ∃ y r, os = y :: r := by cases os with | nil => simp at hlen | cons y r => exact ⟨y, r, rfl⟩
  obtain rfl : os = [] := by cases os with | nil => rfl | cons y r => simp at hlen
  obtain ⟨g0, e0, c0⟩ := hget 0 oa rfl
  obtain ⟨g1, e1, c1⟩ := hget 1 ob rfl
  obtain ⟨g2, e2, c2⟩ := hget 2 oc rfl
  simp only [List.getElem?_cons_zero, List.getElem?_cons_succ, Option.some.injEq, AOper.mk.injEq] at e0 e1 e2
  obtain ⟨f1, f2, f3⟩ := e0
  obtain ⟨f4, f5, f6⟩ := e1
  obtain ⟨f7, f8, f9⟩ := e2
  unfold panR at hpan
  simp only [Bool.not_false, Bool.true_or, Bool.true_and, ← f5, ← f8, isBad, Bool.and_self, Bool.not_true, Bool.or_false] at hpan
  unfold isRz at hpan
  rw [← f1, ← f4] at hpan
  simp only [Bool.and_eq_true, Option.isNone_iff_eq_none] at hpan
  obtain ⟨⟨ga, gb, gc⟩, ⟨ma, mb⟩, mc⟩ := hpan
  obtain ⟨y, ea⟩ := isMv_inv ma
  have eb := isMk_inv mb
  have ec := isPn_inv mc
  have hd1 : d1 < nt := dstsB_get _ hd 0 oa rfl d1 f1.symm
  have hd2 : d2 < nt := dstsB_get _ hd 1 ob rfl d2 f4.symm
  have hy : opd y = some x := by
    unfold compOp at f2
    rw [ea] at f2
    simp only [] at f2
    split at f2
    · rename_i z hz
      split at f2
      · cases f2
      · cases f2; exact hz
    · cases f2
  have hv := evV_sound hr hy hx
  simp only [VR] at hv
  obtain ⟨hv, hk⟩ := hv
  refine wpIn_region ?_
  show wpOpsIn (Fc none) 0 P _ _ [0, 1, 2] a w
  have r0 : (oa.semAt none a.eval).run P w = .ok (.value (.int .i64 k)) w := by
    rw [Oper.semAt_eq _ _ _ (fun c' e => by rw [ea] at e; cases e)]
    simp [execOp, ea, hv]
  have ev : ∀ (a : Act) (d : Tmp) (v : Value), d < a.tmps.size → (a.put (some d) v).eval (.tmp d) = v := fun a d v h => by
    show (a.tmps.setIfInBounds d v).getD d undef = v
    exact getD_set_self _ _ _ h
  have sz : ∀ (a : Act) (d : Tmp) (v : Value), (a.put (some d) v).tmps.size = a.tmps.size := fun a d v => by
    show (a.tmps.setIfInBounds d v).size = _
    simp
  have hs := hr.size
  rw [wpOpsIn]
  simp only [show (#[oa, ob, oc] : Array Oper)[0]? = some oa from rfl]
  rw [if_pos (by simp [Region.wanted, ga])]
  refine ⟨fun _ _ => trivial, ?_⟩
  show Oper.uponIn _ _ _ _ _ _ _ ((oa.semAt none a.eval).run P w)
  rw [r0]
  simp only [Oper.uponIn, ← f1]
  have r1 : (ob.semAt none (a.put (some d1) (.int .i64 k)).eval).run P w = .ok (.value (.iface T (.int .i64 k))) w := by
    rw [Oper.semAt_eq _ _ _ (fun c' e => by rw [eb] at e; cases e)]
    have h1 := hT (.int .i64 k) w
    simp [execOp, eb, ev a d1 _ (Nat.lt_of_lt_of_le hd1 hs), h1]
  rw [wpOpsIn]
  simp only [show (#[oa, ob, oc] : Array Oper)[1]? = some ob from rfl]
  rw [if_pos (by simp [Region.wanted, gb])]
  refine ⟨fun _ _ => trivial, ?_⟩
  show Oper.uponIn _ _ _ _ _ _ _ ((ob.semAt none _).run P w)
  rw [r1]
  simp only [Oper.uponIn, ← f4]
  have r2 : (oc.semAt none ((a.put (some d1) (.int .i64 k)).put (some d2) (.iface T (.int .i64 k))).eval).run P w = .halt (.panic (.iface T (.int .i64 k))) w := by
    rw [Oper.semAt_eq _ _ _ (fun c' e => by rw [ec] at e; cases e)]
    simp [execOp, ec, ev (a.put (some d1) (.int .i64 k)) d2 _ (by rw [sz]; exact Nat.lt_of_lt_of_le hd2 hs), Instr.panic, goPanic]
  rw [wpOpsIn]
  simp only [show (#[oa, ob, oc] : Array Oper)[2]? = some oc from rfl]
  rw [if_pos (by simp [Region.wanted, gc])]
  refine ⟨fun _ _ => trivial, ?_⟩
  show Oper.uponIn _ _ _ _ _ _ _ ((oc.semAt none _).run P w)
  rw [r2]
  simp only [Oper.uponIn]
  refine ⟨rfl, hk, g, Nx.refl g H w, hr.bare ?_, ?_⟩
  · rw [sz, sz]; exact hs
  · rw [put_defers, put_defers]; exact hdf

/-- Code that raises is sound. -/
def ExecZ (P : Program) (E : Env) (T : TypeId) (rl : List Nat) (n : Nat) : Prop :=
  ∀ (loc : List Nat) (fg : Nat → List Nat) (nt base : Nat) (c : Code) (g : Gh) (F : Frm) (H : Hp) (a : Act) (w : World) (k : Int) (H' : Hp), panC P loc T c = true →
    execR E rl n (compCode P loc fg nt false c) F H = some (k, H') → Rel E nt g F H a.tmps w → Lps P E g H w → base ≤ w.heap.size → DfOk E base g w a.defers → c.wpIn (Fc none) 0 P (PostZ E nt base g H w T k H') a w
def LoopZ (P : Program) (E : Env) (T : TypeId) (rl : List Nat) (n : Nat) : Prop :=
  ∀ (loc : List Nat) (fg : Nat → List Nat) (nt base : Nat) (c : Code) (g : Gh) (F : Frm) (H : Hp) (a : Act) (w : World) (k : Int) (H' : Hp), panC P loc T c = true →
    execR E rl n (.loop (compCode P loc fg nt false c)) F H = some (k, H') → Rel E nt g F H a.tmps w → Lps P E g H w → base ≤ w.heap.size → DfOk E base g w a.defers →
    ∀ (b : Frame) (ks : List Item) (cs : List Frame), b.roundOf = none → ∃ e a' w', PostZ E nt base g H w T k H' e a' w' ∧ ArrivesIn (Machine.fenced P (Fc none)) P (lone (b.atR a (.code c :: .inLoop c :: ks)) cs w) b ks cs e a' w'

/-- The marks, one after the other, where something was raised. -/
theorem marks_raised (hdn : ∀ n, E.dn n = false) {fn : Func} {R : Ending → World → Prop} {ch : List PanicEntry} {w0 : World} {g0 g2 : Gh} {H2 : Hp}
    (hend : ∀ w1, Rel E nt g2 [] H2 tmps w1 → Nx g0 g2 H H2 w0 w1 → R (.panicked ch) w1) :
    ∀ (l : List (Option Nat × Deferred)) (w1 : World), (l.filterMap (·.1)).Nodup → (∀ r ∈ l.filterMap (·.1), w0.heap.size ≤ r ∧ FreeB g2 w1 r (.deferred (some []))) → (∀ x ∈ l, x.1 = none → NoopD E x.2) → Rel E nt g2 [] H2 tmps w1 → Nx g0 g2 H H2 w0 w1 →
      LeavesInM (Fc none) 0 P fn tmps R (l.map toD) (.panicking ch) w1
  | [], w1, _, _, _, hr, hn => by
    simp only [List.map_nil, LeavesInM, LeavesIn]
    exact hend w1 hr hn
  | (some r, d) :: l, w1, hd, hf, hx, hr, hn => by
    rw [List.filterMap_cons] at hd hf
    dsimp only at hd hf
    obtain ⟨hb, hF⟩ := hf r (by simp)
    simp only [List.map_cons, LeavesInM]
    refine ⟨by simp, .inl ⟨r, _, rfl, run_takeDeferred hF.at_, ?_⟩⟩
    have hA := hF.agr (o' := .deferred none) (by simp [Obj.rec])
    rw [List.nodup_cons] at hd
    exact marks_raised hdn hend l _ hd.2 (fun r' hr' => ⟨(hf r' (List.mem_cons_of_mem _ hr')).1, (hf r' (List.mem_cons_of_mem _ hr')).2.other (fun e => hd.1 (e ▸ hr'))⟩) (fun x hx' => hx x (List.mem_cons_of_mem _ hx')) (hr.agr hA) (hn.later hA hr.imm fun b hb' => World.putObj_heap_other (by omega))
  | (none, d) :: l, w1, _, _, hx, _, _ => by
    obtain ⟨n, args, _, h⟩ := hx (none, d) (by simp) rfl
    rw [hdn n] at h
    cases h

theorem inlineR_sound (hdn : ∀ n, E.dn n = false) (hrl : RlOk P E T rl) {n : Nat} (hx : ExecZ P E T rl n) : RzOk P E T (inlineR E rl (n + 1)) := by
  intro f args H k H' h nt g F tmps w vs hr hL hv
  simp only [inlineR] at h
  cases hm : memN rl f with
  | false => rw [hm] at h; cases h
  | true =>
    rw [hm, cond_true] at h
    obtain ⟨fu, loc, fg, c, fn, hfu, hfn, hcomp, hb, hpan⟩ := hrl.get hm
    rw [hfn] at h
    simp only [] at h
    unfold compFn at hcomp
    rw [hb] at hcomp
    split at hcomp
    · rename_i c' rs hc' hrs
      cases hc'
      split at hcomp
      · cases hcomp
      · rename_i hname
        cases hcomp
        simp only [] at h
        split at h
        · have hbase := hr.enter hv fu.ntmps
          have hcf : (callFunc f vs.toArray).run P w = .ok (.enter f vs.toArray) w := by
            have hname' : ¬ fu.name = "runtime.NumGoroutine" := by simpa using hname
            simp [callFunc, hfu, hname', hb]
          refine ⟨hcf, ?_⟩
          have hbody := hx loc fg fu.ntmps w.heap.size c _ _ _ ⟨vs.toArray ++ Array.replicate (fu.ntmps - vs.toArray.size) undef, []⟩ w k H' hpan h hbase hL.enter (Nat.le_refl _) DfOk.nil
          refine callsIn_fc.1 (callsIn_of_wp_marks (F := Fc none) (n := 0) hfu hb trivial (wpIn_mono hbody fun e a' w' hp => ?_))
          obtain ⟨rfl, hk, g2, h3, h4, rs, h5, h6, h7, h8⟩ := hp
          show LeavesInM (Fc none) 0 P fu a'.tmps _ a'.defers (.panicking (pch T k)) w'
          rw [h5]
          refine marks_raised hdn (nt := fu.ntmps) (g0 := { g with β := fun _ => none }) (g2 := g2) (H := H) (H2 := H') (w0 := w) (fun w1 k1 k2 => ?_) rs w' h6 h7 h8 h4 h3
          obtain ⟨r3, n3⟩ := hr.back k2 k1
          exact ⟨rfl, hk, _, n3, r3⟩
        · cases h
    · cases hcomp

theorem execR_sound (hE : EnvOk P E) (hm : P.follows .mixedOrders = true) (hdn : ∀ n, E.dn n = false) (hrl : RlOk P E T rl) (hT : ∀ (v : Value) (w : World), (Instr.makeInterface T v).run P w = .ok (.iface T v) w) :
    ∀ n, ExecZ P E T rl n ∧ LoopZ P E T rl n ∧ RzOk P E T (inlineR E rl n) := by
  have hex : ∀ n, ExecOk P E n := fun n => (exec_sound (fun E hE => draw_sound hE hm) n E hE).1
  intro n
  induction n with
  | zero =>
    refine ⟨?_, ?_, ?_⟩
    · intro loc fg nt base c g F H a w k H' _ h; simp [execR] at h
    · intro loc fg nt base c g F H a w k H' _ h; simp [execR] at h
    · intro f args H k H' h; simp [inlineR] at h
  | succ n ih =>
    obtain ⟨ihx, ihl, ihi⟩ := ih
    have hloop : LoopZ P E T rl (n + 1) := by
      intro loc fg nt base c g F H a w k H' hpan h hr hL hb hdf b ks cs hbr
      have hroom : (Fc none).room (cs.length + 1 + 0) := room_wide _
      simp only [execR] at h
      split at h
      · rename_i F1 H1 h1
        obtain ⟨e, a1, w1, ⟨hp1, g1, hn1, hr1, hd1⟩, harr⟩ := hex n none false loc fg nt base c g F H a w _ _ _ (fun _ => rfl) h1 hr hL hb hdf b (.inLoop c :: ks) cs hbr trivial hroom
        cases e <;> simp only [ExR] at hp1
        obtain ⟨e2, a2, w2, hq2, harr2⟩ := ihl loc fg nt base c g1 F1 H1 a1 w1 k H' hpan h hr1 (hL.nx hn1) (Nat.le_trans hb hn1.size) hd1 b ks cs hbr
        exact ⟨e2, a2, w2, hq2.trans hn1, .of_steps (StepsIn.trans harr (.one (fenced_calm trivial hroom rfl) stepR_inLoop)) harr2⟩
      · cases h
      · obtain ⟨e, a1, w1, hp, harr⟩ := ihx loc fg nt base c g F H a w _ _ hpan h hr hL hb hdf b (.inLoop c :: ks) cs hbr trivial hroom
        obtain ⟨rfl, hp2⟩ := hp
        exact ⟨_, a1, w1, ⟨rfl, hp2⟩, .pass (x := .inLoop c) rfl (fun _ _ => .inl (fun e1 => by cases e1)) harr⟩
    refine ⟨?_, hloop, inlineR_sound hdn hrl ihx⟩
    intro loc fg nt base c
    induction c with
    | scope x ihs =>
      intro g F H a w k H' hpan h hr hL hb hdf
      simp only [compCode] at h
      refine wpIn_scope (wpIn_mono (ihs g F H a w k H' hpan h hr hL hb hdf) fun e a' w' hp => ?_)
      obtain ⟨rfl, hp2⟩ := hp
      exact ⟨rfl, hp2⟩
    | region id ops draw =>
      intro g F H a w k H' hpan h hr hL hb hdf
      simp only [compCode] at h
      unfold compReg at h
      simp only [Bool.false_and, Bool.false_eq_true, if_false] at h
      have hpan : panR P loc T ops draw = true := hpan
      split at h
      · rename_i l hl
        split at h
        · rename_i hds
          cases draw with
          | true =>
            unfold panR at hpan
            simp only [Bool.not_true, Bool.false_or, Bool.and_eq_true, Bool.not_eq_true'] at hpan
            simp only [if_true] at h
            split at h
            · cases hf : freePairs (closeB ops.toList []) with
              | nil => rw [hf] at hpan; simp at hpan
              | cons x r => rw [hf] at h; simp [execR] at h
            · simp [execR] at h
          | false =>
            simp only [Bool.false_eq_true, if_false] at h
            simp only [execR] at h
            split at h
            · rename_i k' hp
              cases h
              exact rz_pat hl hp hpan hds hr hdf hT
            · refine wpIn_region (rzOps_sound hE (inline_ok hE hm n) ihi hl hds _ g F H a w (fun i hi => by simpa using hi) hr hL (k := k) (H' := H') ?_ fun a' w' g' hk d1 n1 r1 => ⟨rfl, hk, g', n1, r1, (hdf.nx n1).go d1⟩)
              have hlen := (compOps_get _ _ hl).1
              have : ops.size = l.length := by simpa using hlen.symm
              rw [this, range_filterMap]
              exact h
        · simp [execR] at h
      · simp [execR] at h
    | seq x y _ _ =>
      intro g F H a w k H' hpan h hr hL hb hdf
      simp only [panC, Bool.and_eq_true, Bool.not_eq_true'] at hpan
      have hc : compCode P loc fg nt false (.seq x y) = .seq (compCode P loc fg nt false x) (compCode P loc fg nt false y) := by
        rw [compCode]
        intro id ops e hx hy
        subst hx; subst hy
        simp [isYr] at hpan
      rw [hc] at h
      simp only [execR] at h
      split at h
      · rename_i F1 H1 h1
        refine wpIn_seq (wpIn_mono (hex n none false loc fg nt base x g F H a w _ _ _ (fun _ => rfl) h1 hr hL hb hdf) fun e a1 w1 hp => ?_)
        obtain ⟨hp1, g1, hn1, hr1, hd1⟩ := hp
        cases e <;> simp only [ExR] at hp1
        exact wpIn_mono (ihx loc fg nt base y g1 F1 H1 a1 w1 _ _ hpan.2.2 h hr1 (hL.nx hn1) (Nat.le_trans hb hn1.size) hd1) fun e a' w' hp => hp.trans hn1
      · cases h
      · refine wpIn_seq (wpIn_mono (ihx loc fg nt base x g F H a w _ _ hpan.2.1 h hr hL hb hdf) fun e a1 w1 hp => ?_)
        obtain ⟨rfl, hp2⟩ := hp
        exact ⟨rfl, hp2⟩
    | cond x y z _ _ =>
      intro g F H a w k H' hpan h hr hL hb hdf
      simp only [panC, Bool.and_eq_true] at hpan
      simp only [compCode] at h
      split at h
      · rename_i x' hx
        simp only [execR] at h
        split at h
        · rename_i hbv
          have := evV_sound hr hx hbv
          simp only [VR] at this
          exact wpIn_cond_true this (ihx loc fg nt base y g F H a w _ _ hpan.1 h hr hL hb hdf)
        · rename_i hbv
          have := evV_sound hr hx hbv
          simp only [VR] at this
          exact wpIn_cond_false this (ihx loc fg nt base z g F H a w _ _ hpan.2 h hr hL hb hdf)
        · cases h
      · simp [execR] at h
    | block id x _ =>
      intro g F H a w k H' hpan h hr hL hb hdf
      simp only [compCode, execR] at h
      refine wpIn_block (wpIn_mono (ihx loc fg nt base x g F H a w _ _ hpan h hr hL hb hdf) fun e a1 w1 hp => ?_)
      obtain ⟨rfl, hp2⟩ := hp
      exact ⟨rfl, hp2⟩
    | loop x _ =>
      intro g F H a w k H' hpan h hr hL hb hdf b ks cs hbr _ hroom
      obtain ⟨e, a', w', hq, harr⟩ : ∃ e a' w', PostZ E nt base g H w T k H' e a' w' ∧ ArrivesIn (Machine.fenced P (Fc none)) P (lone (b.atR a (.code x :: .inLoop x :: ks)) cs w) b ks cs e a' w' := by
        simp only [compCode] at h
        split at h
        · exact hloop loc fg nt base x g F H a w k H' hpan h hr hL hb hdf b ks cs hbr
        · simp [execR] at h
      exact ⟨e, a', w', hq, .of_steps (.one (fenced_calm trivial hroom rfl) stepR_loop) harr⟩
    | rangeFunc gop psA assign body _ _ =>
      intro g F H a w k H' _ h
      simp only [compCode] at h
      split at h
      · split at h
        · simp [execR] at h
        · split at h
          · simp [execR] at h
          · simp [execR] at h
      · simp [execR] at h
    | _ =>
      intro g F H a w k H' _ h
      simp [compCode, execR] at h

/-! What catches. -/

/-- An operation, as it lies in the program. -/
structure OpIs (o : Oper) (d : Option Tmp) (op : Op) : Prop where
  dst : o.dst = d
  op : o.op = op
  guard : o.guard = none

theorem opsS_val {F : Fence} {m : Nat} {ops : Array Oper} {i : Nat} {rest : List Nat} {cs : List Frame} {Q : Exit → Act → List Frame → World → Prop} {v : Value} {d : Option Tmp} {op : Op} (hf : ∀ f, F.fn f) (ho : ops[i]? = some o) (hi : OpIs o d op)
    (hrun : (execOp a.eval o).run P w = .ok (.value v) w) (h : wpOpsSIn F m P ops Q rest (a.put d v) cs w) : wpOpsSIn F m P ops Q (i :: rest) a cs w := by
  rw [wpOpsSIn]
  simp only [ho]
  refine ⟨fun _ _ => hf _, ?_⟩
  rw [if_pos (by simp [Region.wanted, hi.guard]), hrun]
  rw [hi.dst]
  exact h
theorem x_mv {ρ : Operand → Value} {d : Option Tmp} {x : Operand} (h : OpIs o d (.move x)) {v : Value} (hv : ρ x = v) : (execOp ρ o).run P w = .ok (.value v) w := by
  subst hv
  simp [execOp, h.op]
theorem x_as {ρ : Operand → Value} {d : Option Tmp} {x : Operand} (h : OpIs o d (.assign x)) {v : Value} (hv : ρ x = v) : (execOp ρ o).run P w = .ok (.value v) w := by
  subst hv
  simp [execOp, h.op]
theorem x_ext {ρ : Operand → Value} {d : Option Tmp} {x : Operand} {j : Nat} (h : OpIs o d (.extract x j)) {vs : Array Value} {v : Value} (hv : ρ x = .tuple vs) (hj : vs[j]? = some v) : (execOp ρ o).run P w = .ok (.value v) w := by
  simp [execOp, h.op, hv, Instr.extract, hj]
theorem x_not {ρ : Operand → Value} {d : Option Tmp} {x : Operand} {t : TypeId} (h : OpIs o d (.unOp .not t x)) {b : Bool} (hv : ρ x = .bool b) : (execOp ρ o).run P w = .ok (.value (.bool !b)) w := by
  simp [execOp, h.op, hv, Op.unary]
theorem x_nil {ρ : Operand → Value} {d : Option Tmp} {x : Operand} (h : OpIs o d (.nilCheck x)) {ad : Addr} (hv : ρ x = .pointer (some ad)) : (execOp ρ o).run P w = .ok (.value (.pointer (some ad))) w := by
  simp [execOp, h.op, hv]
/-! A function that catches a number that was raised, and puts it where its argument points. -/
theorem size_put (a : Act) (d : Tmp) (v : Value) : (a.put (some d) v).tmps.size = a.tmps.size := by
  show (a.tmps.setIfInBounds d v).size = _
  simp
theorem eval_put (a : Act) (d j : Tmp) (v : Value) (h : d < a.tmps.size) : (a.put (some d) v).eval (.tmp j) = if j = d then v else a.eval (.tmp j) := by
  show (a.tmps.setIfInBounds d v).getD j undef = _
  by_cases e : j = d
  · subst e; rw [if_pos rfl]; exact getD_set_self _ _ _ h
  · rw [if_neg e]; exact getD_set_other _ _ _ _ e
theorem tm_get (v : Value) (m : Nat) : ({ tmps := #[v] ++ Array.replicate m undef, defers := [] } : Act).eval (.tmp 0) = v := by
  show (#[v] ++ Array.replicate m undef).getD 0 undef = v
  rw [Array.getD_eq_getD_getElem?, Array.getElem?_append_left (by simp)]
  simp
theorem caught_go {f : FuncId} {fn : Func} {i0 i1 i2 i3 i5 : Nat} {X : Code} {a0 a1 b0 b1 c0 c1 c2 c3 c4 c5 c6 d0 d1 e0 e1 e2 e3 : Oper} {cl : Call} {ty ty2 ty3 _ xT eT : TypeId}
    (hf : P.funcs[f]? = some fn) (hname : fn.name ≠ "runtime.NumGoroutine")
    (hb : fn.body = some (.seq (.region i0 #[a0, a1] false) (.seq (.region i1 #[b0, b1] false) (.cond (.tmp 7) (.seq (.region i2 #[c0, c1, c2, c3, c4, c5, c6] false) (.seq (.seq (.region i3 #[d0, d1] false) (.cond (.tmp 14) X .skip)) (.region i5 #[e0, e1, e2, e3] false))) .skip))))
    (hr : fn.results = #[]) (hn : fn.ntmps = 19)
    (ha0 : OpIs a0 (some 5) (.call cl)) (hcl : cl.callee = .builtin .recover) (ha1 : OpIs a1 (some 2) (.assign (.tmp 5)))
    (hb0 : OpIs b0 (some 6) (.move (.tmp 2))) (hb1 : OpIs b1 (some 7) (.binOp .neq ty (.tmp 6) (.const .nilIface) ty2))
    (hc0 : OpIs c0 (some 9) (.move (.tmp 2))) (hc1 : OpIs c1 (some 10) (.typeAssert (.tmp 9) xT T true)) (hc2 : OpIs c2 (some 8) (.move (.tmp 10))) (hc3 : OpIs c3 (some 11) (.extract (.tmp 8) 0)) (hc4 : OpIs c4 (some 12) (.extract (.tmp 8) 1))
    (hc5 : OpIs c5 (some 3) (.assign (.tmp 11))) (hc6 : OpIs c6 (some 4) (.assign (.tmp 12)))
    (hd0 : OpIs d0 (some 13) (.move (.tmp 4))) (hd1 : OpIs d1 (some 14) (.unOp .not ty3 (.tmp 13)))
    (he0 : OpIs e0 (some 16) (.move (.tmp 0))) (he1 : OpIs e1 (some 17) (.move (.tmp 3))) (he2 : OpIs e2 (some 18) (.nilCheck (.tmp 16))) (he3 : OpIs e3 none (.store eT (.tmp 18) (.tmp 17)))
    (hty : ∀ k w, (Op.equal ty (.iface T (.int .i64 k)) .nilIface).run P w = .ok false w) (hta : ∀ k w, (Instr.typeAssert (.iface T (.int .i64 k)) xT T true).run P w = .ok (.tuple #[.int .i64 k, .bool true]) w)
    (ad : Addr) (k : Int) (w w2 : World) (hst : (Instr.storeAt eT (.pointer (some ad)) (.int .i64 k)).run P w = .ok () w2) :
    (callFunc f #[.pointer (some ad)]).run P w = .ok (.enter f #[.pointer (some ad)]) w ∧
    CallsDIn (Fc none) 0 P f #[.pointer (some ad)] (.panicking (pch T k)) w fun e u w' => u = .panicking [{ v := .iface T (.int .i64 k), recovered := true }] ∧ w' = w2 ∧ ∃ v, e = .returned v := by
  refine ⟨by simp [callFunc, hf, hname, hb], callsDIn_of_wpSIn hf hb trivial fun cc cs hu => ?_⟩
  have tv : ∀ g, (Fc none).fn g := fun _ => trivial
  have hrec : recoverD (cc :: cs) = some (.iface T (.int .i64 k), { cc with mode := .panicking [{ v := .iface T (.int .i64 k), recovered := true }] } :: cs) := by simp [recoverD, hu]
  rw [hn]
  generalize htm : #[Value.pointer (some ad)] ++ Array.replicate (19 - #[Value.pointer (some ad)].size) undef = tm
  have hsz : tm.size = 19 := by subst htm; simp
  have ht0 : ({ tmps := tm, defers := [] } : Act).eval (.tmp 0) = .pointer (some ad) := by subst htm; exact tm_get _ _
  clear htm
  refine wpSIn_seq (wpSIn_region ?_)
  show wpOpsSIn _ _ _ _ _ [0, 1] _ _ _
  rw [wpOpsSIn]
  simp only [show (#[a0, a1] : Array Oper)[0]? = some a0 from rfl]
  refine ⟨fun _ _ => trivial, ?_⟩
  rw [if_pos (by simp [Region.wanted, ha0.guard])]
  have r0 : ∀ (ρ : Operand → Value), (execOp ρ a0).run P w = .ok .recover w := fun ρ => by
    simp [execOp, ha0.op, resolve, hcl, invoke, builtin]
  rw [r0]
  simp only [hrec, ha0.dst]
  refine opsS_val (o := a1) tv rfl ha1 (x_as ha1 (v := .iface T (.int .i64 k)) (by simp [eval_put, hsz])) ?_
  rw [wpOpsSIn]
  simp only [Exit.thenS]
  refine wpSIn_seq (wpSIn_region ?_)
  show wpOpsSIn _ _ _ _ _ [0, 1] _ _ _
  refine opsS_val (o := b0) tv rfl hb0 (x_mv hb0 (v := .iface T (.int .i64 k)) (by simp [eval_put, size_put, hsz])) ?_
  refine opsS_val (o := b1) tv rfl hb1 (v := .bool true) ?_ ?_
  · have e1 : ∀ (ρ : Operand → Value), ρ (.tmp 6) = .iface T (.int .i64 k) → ρ (.const .nilIface) = .nilIface → (execOp ρ b1).run P w = .ok (.value (.bool true)) w := fun ρ h1 h2 => by
      simp [execOp, hb1.op, h1, h2, eqGuard, binOp, hty k w]
    exact e1 _ (by simp [eval_put, size_put, hsz]) rfl
  rw [wpOpsSIn]
  simp only [Exit.thenS]
  refine wpSIn_cond (t := true) (by simp [eval_put, size_put, hsz]) ?_
  simp only [if_true]
  refine wpSIn_seq (wpSIn_region ?_)
  show wpOpsSIn _ _ _ _ _ [0, 1, 2, 3, 4, 5, 6] _ _ _
  refine opsS_val (o := c0) tv rfl hc0 (x_mv hc0 (v := .iface T (.int .i64 k)) (by simp [eval_put, size_put, hsz])) ?_
  refine opsS_val (o := c1) tv rfl hc1 (v := .tuple #[.int .i64 k, .bool true]) ?_ ?_
  · have e1 : ∀ (ρ : Operand → Value), ρ (.tmp 9) = .iface T (.int .i64 k) → (execOp ρ c1).run P w = .ok (.value (.tuple #[.int .i64 k, .bool true])) w := fun ρ h1 => by
      simp [execOp, hc1.op, h1, hta k w]
    exact e1 _ (by simp [eval_put, size_put, hsz])
  refine opsS_val (o := c2) tv rfl hc2 (x_mv hc2 (v := .tuple #[.int .i64 k, .bool true]) (by simp [eval_put, size_put, hsz])) ?_
  refine opsS_val (o := c3) tv rfl hc3 (x_ext hc3 (vs := #[.int .i64 k, .bool true]) (v := .int .i64 k) (by simp [eval_put, size_put, hsz]) rfl) ?_
  refine opsS_val (o := c4) tv rfl hc4 (x_ext hc4 (vs := #[.int .i64 k, .bool true]) (v := .bool true) (by simp [eval_put, size_put, hsz]) rfl) ?_
  refine opsS_val (o := c5) tv rfl hc5 (x_as hc5 (v := .int .i64 k) (by simp [eval_put, size_put, hsz])) ?_
  refine opsS_val (o := c6) tv rfl hc6 (x_as hc6 (v := .bool true) (by simp [eval_put, size_put, hsz])) ?_
  rw [wpOpsSIn]
  simp only [Exit.thenS]
  refine wpSIn_seq (wpSIn_seq (wpSIn_region ?_))
  show wpOpsSIn _ _ _ _ _ [0, 1] _ _ _
  refine opsS_val (o := d0) tv rfl hd0 (x_mv hd0 (v := .bool true) (by simp [eval_put, size_put, hsz])) ?_
  refine opsS_val (o := d1) tv rfl hd1 (x_not hd1 (b := true) (by simp [eval_put, size_put, hsz])) ?_
  rw [wpOpsSIn]
  simp only [Exit.thenS]
  refine wpSIn_cond (t := false) (by simp [eval_put, size_put, hsz]) ?_
  refine wpSIn_of_wpIn rfl (wpIn_skip ?_)
  simp only [Exit.thenS]
  refine wpSIn_region ?_
  show wpOpsSIn _ _ _ _ _ [0, 1, 2, 3] _ _ _
  refine opsS_val (o := e0) tv rfl he0 (x_mv he0 (v := .pointer (some ad)) (by simp [eval_put, size_put, hsz, ht0])) ?_
  refine opsS_val (o := e1) tv rfl he1 (x_mv he1 (v := .int .i64 k) (by simp [eval_put, size_put, hsz])) ?_
  refine opsS_val (o := e2) tv rfl he2 (x_nil he2 (ad := ad) (by simp [eval_put, size_put, hsz])) ?_
  rw [wpOpsSIn]
  simp only [show (#[e0, e1, e2, e3] : Array Oper)[3]? = some e3 from rfl]
  refine ⟨fun _ _ => trivial, ?_⟩
  rw [if_pos (by simp [Region.wanted, he3.guard])]
  have r9 : ∀ (ρ : Operand → Value), ρ (.tmp 18) = .pointer (some ad) → ρ (.tmp 17) = .int .i64 k → (execOp ρ e3).run P w = .ok .skip w2 := fun ρ h1 h2 => by
    simp [execOp, he3.op, h1, h2, hst]
  rw [r9 _ (by simp [eval_put, size_put, hsz]) (by simp [eval_put, size_put, hsz])]
  simp only [he3.dst]
  rw [wpOpsSIn]
  have hres : ∀ tm : Array Value, (results fn tm).run P w2 = .ok (.tuple #[]) w2 := fun tm => by
    rw [results_eq]
    simp [hr]
  exact ⟨rfl, _, rfl, _, hres _, rfl, rfl, _, rfl⟩

/-- A function that defers what catches, and raises: what it leaves. -/
def catchV (E : Env) (rl : List Nat) (f n : Nat) (args : List PV) (H : Hp) : Option (PV × Hp) :=
  match E.fns f, args with
  | some fn, .ptr id ext i off :: r =>
    (match fn.body with
     | .seq (.ops [⟨none, .dfr _, none⟩] [] fg0) (.ops l [] _) =>
       if (PV.ptr id ext i off :: r).length = fn.nparams then
       (match rzOps E (inline E n) (inlineR E rl n) l (fdels (frame0 0 (.ptr id ext i off :: r)) fg0) H with
        | some (k, H1) => (match opOut E (fun _ _ _ => none) [(0, .v (.ptr id ext i off)), (1, .v (.int .i64 k))] H1 (.store 1 (.t 0) (.t 1)) with
          | some out => some (.tup [], out.h)
          | none => none)
        | none => none) else none
     | _ => none)
  | _, _ => none
def catchE (E : Env) (rl : List Nat) (f n : Nat) (m : Nat) (xs : List PV) (H : Hp) : Option (Bool × Bool × (PV × Hp) × (PV × Hp)) :=
  bif Nat.beq m f then (match catchV E rl f n xs H with | some x => some (true, true, x, (.nils, [])) | none => none) else none

theorem storeAt_of {o : Oper} {t : TypeId} {x y : Operand} {ρ : Operand → Value} {v : Value} {w2 : World} (ho : o.op = .store t x y) (h : (execOp ρ o).run P w = .ok (.value v) w2 ∨ ((execOp ρ o).run P w = .ok .skip w2 ∧ v = undef)) :
    (Instr.storeAt t (ρ x) (ρ y)).run P w = .ok () w2 := by
  have e : (execOp ρ o).run P w = ((Instr.storeAt t (ρ x) (ρ y)).run P w).andThen fun _ w' => .ok .skip w' := by
    simp [execOp, ho]
  rw [e] at h
  cases hs : (Instr.storeAt t (ρ x) (ρ y)).run P w with
  | ok u w3 =>
    rw [hs] at h
    simp only [Result.andThen] at h
    rcases h with h | ⟨h, _⟩
    · cases h
    · cases h; rfl
  | halt b w3 =>
    rw [hs] at h
    simp only [Result.andThen] at h
    rcases h with h | ⟨h, _⟩ <;> cases h

theorem catch_ok (hE : EnvOk P E) (hm : P.follows .mixedOrders = true) (hdn : ∀ n, E.dn n = false) (hrl : RlOk P E T rl) (hT : ∀ (v : Value) (w : World), (Instr.makeInterface T v).run P w = .ok (.iface T v) w)
    {f c n i0 i1 : Nat} {fu : Func} {fn : AFn} {loc : List Nat} {fg : Nat → List Nat} {od : Oper} {ops : Array Oper} {cl : Call} {eT : TypeId}
    (hfu : P.funcs[f]? = some fu) (hfn : E.fns f = some fn) (hcomp : compFn P loc fg fu = some fn) (hb : fu.body = some (.seq (.region i0 #[od] false) (.region i1 ops false))) (hres : fu.results = #[])
    (ho : OpIs od none (.defer cl)) (hcl : cl.callee = .value (.func c)) (hca : cl.args = #[.tmp 0])
    (hi : ((P.info? eT).map fun i => i.size) = some 1)
    (hcg : ∀ (ad : Addr) (k : Int) (w w2 : World), (Instr.storeAt eT (.pointer (some ad)) (.int .i64 k)).run P w = .ok () w2 →
      (callFunc c #[.pointer (some ad)]).run P w = .ok (.enter c #[.pointer (some ad)]) w ∧
      CallsDIn (Fc none) 0 P c #[.pointer (some ad)] (.panicking (pch T k)) w fun e u w' => u = .panicking [{ v := .iface T (.int .i64 k), recovered := true }] ∧ w' = w2 ∧ ∃ v, e = .returned v) :
    InlineOk P E (fun m xs H => armOf (catchE E rl f n m xs H)) := by
  obtain ⟨inf, hi, hsz⟩ := Option.map_eq_some_iff.1 hi
  intro f' args H r H' h nt g F tmps w vs hr hL hv
  dsimp only at h
  unfold catchE at h
  cases hbq : Nat.beq f' f with
  | false => rw [hbq] at h; simp [armOf] at h
  | true =>
    rw [hbq, cond_true] at h
    obtain rfl := Nat.eq_of_beq_eq_true hbq
    cases hcv : catchV E rl f' n args H with
    | none => rw [hcv] at h; simp [armOf] at h
    | some x =>
      rw [hcv] at h
      simp only [armOf, cond_true, Option.some.injEq] at h
      subst h
      unfold catchV at hcv
      rw [hfn] at hcv
      split at hcv
      case h_2 => cases hcv
      rename_i fn' id ext i off r0 hfe
      cases hfe
      split at hcv
      case h_2 => cases hcv
      rename_i cn fg0 l fg1 hbody
      split at hcv
      case isFalse => cases hcv
      rename_i hlen
      split at hcv
      case h_2 => cases hcv
      rename_i k H1 hrz
      split at hcv
      case h_2 => cases hcv
      rename_i out hout
      simp only [Option.some.injEq, Prod.mk.injEq] at hcv
      obtain ⟨rfl, rfl⟩ := hcv
      unfold compFn at hcomp
      rw [hb] at hcomp
      split at hcomp
      case h_2 => cases hcomp
      rename_i c' rs hc' hrs
      cases hc'
      split at hcomp
      · cases hcomp
      rename_i hname
      cases hcomp
      simp only [] at hbody hlen
      have hcc : compCode P loc fg fu.ntmps false (.seq (.region i0 #[od] false) (.region i1 ops false)) = .seq (compReg P loc fg fu.ntmps false i0 #[od] false) (compReg P loc fg fu.ntmps false i1 ops false) := by
        rw [compCode]
        · simp only [compCode]
        · intro id ops e hx hy; cases hy
      rw [hcc] at hbody
      simp only [ACode.seq.injEq] at hbody
      obtain ⟨hb0, hb1⟩ := hbody
      unfold compReg at hb1
      simp only [Bool.false_and, Bool.false_eq_true, if_false] at hb1
      split at hb1
      case h_2 => cases hb1
      rename_i l' hl
      split at hb1
      case isFalse => cases hb1
      rename_i hds
      cases hb1
      have hbase := hr.enter hv fu.ntmps
      have hcf : (callFunc f' vs.toArray).run P w = .ok (.enter f' vs.toArray) w := by
        have hname' : ¬ fu.name = "runtime.NumGoroutine" := by simpa using hname
        simp [callFunc, hfu, hname', hb]
      have hf0 := hbase.frame 0 (.v (.ptr id ext i off)) (by simp [frame0, fget])
      simp only [FRel] at hf0
      generalize hv0 : (vs.toArray ++ Array.replicate (fu.ntmps - vs.toArray.size) undef).getD 0 undef = v0 at hf0
      unfold CallR
      rw [hcf]
      simp only []
      refine callsIn_fc.1 (callsIn_of_wp_marks (F := Fc none) (n := 0) hfu hb trivial (wpIn_seq (wpIn_region ?_)))
      show wpOpsIn (Fc none) 0 P #[od] _ [0] _ _
      rw [wpOpsIn]
      simp only [show (#[od] : Array Oper)[0]? = some od from rfl]
      rw [if_pos (by simp [Region.wanted, ho.guard])]
      refine ⟨fun _ _ => trivial, ?_⟩
      have hrun : ∀ (a : Act), (od.semAt none a.eval).run P w = .ok (.defer { target := .fn (.func c) #[], args := #[a.eval (.tmp 0)] }) w := fun a => by
        have e1 : a.eval (.func c) = .func (.func c) #[] #[] := rfl
        simp [Oper.semAt, execOp, ho.op, resolve, hcl, hca, e1, Deferred.ofValue]
      show Oper.uponIn _ _ _ _ _ _ _ ((od.semAt none _).run P w)
      rw [hrun]
      simp only [Oper.uponIn, ho.dst]
      rw [wpOpsIn]
      simp only [Exit.then]
      refine wpIn_region ?_
      have hev : ({ tmps := vs.toArray ++ Array.replicate (fu.ntmps - vs.toArray.size) undef, defers := [] } : Act).eval (.tmp 0) = v0 := hv0
      rw [hev]
      refine rzOps_sound hE (inline_ok hE hm n) (execR_sound hE hm hdn hrl hT n).2.2 hl hds _ { g with β := fun _ => none } (fdels (frame0 0 (.ptr id ext i off :: r0)) fg0) H _ w (fun i hi => by simpa using hi) (hbase.less fun s x hs => fget_fdels _ _ _ _ hs) hL.enter (k := k) (H' := H1) ?_ ?_
      · have hlen2 := (compOps_get _ _ hl).1
        have : ops.size = l.length := by simpa using hlen2.symm
        rw [this, range_filterMap]
        exact hrz
      · intro a' w' g' hk hgo n1 r1
        have hdf : a'.defers = [{ target := .fn (.func c) #[], args := #[v0] }] := by
          obtain ⟨ds, e1, e2⟩ := hgo
          cases ds with
          | nil => exact e1
          | cons d ds =>
            obtain ⟨m, as, _, e3⟩ := e2 d List.mem_cons_self
            rw [hdn m] at e3
            cases e3
        have hv1 := VR_on n1.on _ _ hf0
        have hptr := hv1
        simp only [VR, PtrR] at hptr
        obtain ⟨hbk, ad, _, _, hvp, _⟩ := hptr
        subst hvp
        have R2 : Rel E 2 g' [(0, .v (.ptr id ext i off)), (1, .v (.int .i64 k))] H1 (#[.pointer (some ad), .int .i64 k] : Array Value) w' :=
          { r1 with
            size := by simp
            frame := fun s fv hs => by
              simp only [fget] at hs
              split at hs
              · rename_i e; subst e; cases hs; simpa [FRel, Array.getD] using hv1
              · split at hs
                · rename_i e; subst e; cases hs; simp [FRel, Array.getD, VR, hk]
                · cases hs }
        let os : Oper := { (default : Oper) with op := .store eT (.tmp 0) (.tmp 1), dst := none }
        have hst := op_store (P := P) (o := os) (a := ⟨#[.pointer (some ad), .int .i64 k], []⟩) R2 (t := eT) (x := .tmp 0) (y := .tmp 1) rfl hi rfl rfl (by rw [hsz]; exact hout)
        obtain ⟨v2, w2, g2, hrun2, n2, r2, _⟩ := hst
        have hstore := storeAt_of (o := os) rfl hrun2
        obtain ⟨hc1, hc2⟩ := hcg ad k w' w2 hstore
        show LeavesInM (Fc none) 0 P fu a'.tmps _ a'.defers (.panicking (pch T k)) w'
        rw [hdf]
        simp only [LeavesInM]
        refine ⟨by simp, .inr ⟨fun h => by simp [Fence.wide] at h, .func c, #[], c, #[.pointer (some ad)], rfl, ?_, fun _ _ => trivial, CallsDIn.mono' hc2 fun e u w'' he => ?_⟩⟩
        · have : (invoke (Target.fn (.func c) #[]) #[.pointer (some ad)]).run P w' = (callFunc c #[.pointer (some ad)]).run P w' := by simp [invoke]
          exact this.trans hc1
        · obtain ⟨rfl, rfl, v, rfl⟩ := he
          simp only [settle, List.dropWhile, LeavesIn]
          refine ⟨.tuple #[], ?_, ?_⟩
          · rw [results_eq]; simp [hres]
          · obtain ⟨r3, n3⟩ := hr.back (n1.trans n2) r2
            exact ⟨_, n3, r3, by simp [VR, VRs]⟩

/-! Such a call, whatever loops over functions there are: no yield is handed to it. -/
def noYld : Fn → Bool
  | .yield _ => false
  | _ => true
def yldFree (call : Nat → List PV → Hp → Option (PV × Hp)) (f : Nat) (args : List PV) (H : Hp) : Option (PV × Hp) :=
  bif noYH noYld (fun _ => true) H && fnAllL noYld (fun _ => true) args then call f args H else none
theorem inline_any {call : Nat → List PV → Hp → Option (PV × Hp)} (hc : InlineOk P E call) (y : Nat) : InlineOk P (E.ats y) (yldFree call) := by
  intro f args H r H' h nt g F tmps w vs hr hL hv
  unfold yldFree at h
  cases hb : (noYH noYld (fun _ => true) H && fnAllL noYld (fun _ => true) args) with
  | false => rw [hb] at h; cases h
  | true =>
    rw [hb, cond_true] at h
    simp only [Bool.and_eq_true] at hb
    obtain ⟨hb1, hb2⟩ := hb
    let gl : Gh := ({ g with β := fun _ => none } : Gh).wl fun _ => none
    have hU : ∀ f, noYld f = true → g.okF f → (g.wl fun _ => none).okF f ∧ (g.wl fun _ => none).tr f = g.tr f := by
      intro f hf _
      cases f with
      | yield k => cases hf
      | _ => exact ⟨trivial, rfl⟩
    have hI : ∀ id, (fun _ : Nat => true) id = true → H[id]? = H[id]? := fun _ _ => rfl
    have hon0 : On (g.wl fun _ => none) gl H H w w := ⟨fun _ x => ⟨x, rfl⟩, fun _ hb x => ⟨hb, x, rfl, rfl, .inr ⟨rfl, rfl⟩⟩, fun _ cur _ x => ⟨cur, x, rfl⟩, rfl⟩
    have r0 : Rel E 0 gl [] H #[] w := by
      refine ⟨Nat.zero_le _, fun s fv e => by simp [fget] at e, fun id hb e => ?_, fun id id' hb b o b' o' => hr.dist id id' hb b o b' o', fun id b o e => hr.rsome id b o e, fun s s' b e => by simp [gl, Gh.wl] at e, fun s b id o e => by simp [gl, Gh.wl] at e, fun s b e => by simp [gl, Gh.wl] at e, hr.imm, hr.glob⟩
      obtain ⟨b, o, hk⟩ := hr.heap id hb e
      exact ⟨b, o, BlkR_on hon0 (BlkR_lam hU hI (noYH_get H id hb hb1 e) hk) rfl rfl (fun x => x)⟩
    have v0 : VRs gl H w args vs := VRs_on hon0 _ _ (VRs_lam hU hI args vs hb2 hv)
    refine (hc f args H r H' h 0 gl [] #[] w vs r0 (Lps.none_ fun _ => rfl) v0).mono ?_
    rintro v w' ⟨g', n1, r1, hvr⟩
    have hlam : ∀ k, g'.lam k = none := fun k => by rw [n1.on.lam]; rfl
    have hUp : ∀ f, (fun _ : Fn => true) f = true → g'.okF f → (g'.wl g.lam).okF f ∧ (g'.wl g.lam).tr f = g'.tr f := fun f _ hf => Gh.okF_lam (g' := g'.wl g.lam) (fun k l e => by rw [hlam k] at e; cases e) hf
    have r2 : Rel E 0 (g'.wl g.lam) [] H' #[] w' := r1.lamUp fun k l e => by rw [hlam k] at e; cases e
    have v2 : VR (g'.wl g.lam) H' w' r v := VR_lam hUp (fun _ _ => rfl) r v (fnAll_true r) hvr
    have n2 : Nx { g with β := fun _ => none } (g'.wl g.lam) H H' w w' :=
      ⟨n1.os, n1.tape, n1.output, n1.drawn, n1.size, n1.kept, n1.rng, n1.immb, n1.bet, ⟨n1.on.keeps, n1.on.hext, n1.on.shape, rfl⟩⟩
    obtain ⟨r3, n3⟩ := hr.back n2 (show Rel (E.ats y) 0 (g'.wl g.lam) [] H' #[] w' from Rel.env (E := E) (E' := E.ats y) rfl r2)
    have hon2 : On (g'.wl g.lam) { (g'.wl g.lam) with β := g.β } H' H' w' w' := ⟨fun _ x => ⟨x, rfl⟩, fun _ hb x => ⟨hb, x, rfl, rfl, .inr ⟨rfl, rfl⟩⟩, fun _ cur _ x => ⟨cur, x, rfl⟩, rfl⟩
    exact ⟨_, n3, r3, VR_on hon2 _ _ v2⟩

/-- The environment with functions that may be deferred. -/
def Env.dns (E : Env) (l : List Nat) : Env := { E with dn := memN l }
theorem EnvOk.dns (hE : EnvOk P E) {l : List Nat} (h : ∀ n, memN l n = true → NoopF P n) : EnvOk P (E.dns l) where
  sum := hE.sum
  fns := hE.fns
  eff := EnvOk.eff' (E := E) (E' := E.dns l) rfl rfl rfl hE.eff
  dn := fun n hn => h n hn
  top := hE.top
  yl := EnvOk.yl' (E' := E.dns l) hE rfl rfl rfl rfl
theorem memN_one {k n : Nat} (h : memN [k] n = true) : n = k := by
  simp only [memN] at h
  cases hb : Nat.beq k n with
  | true => exact (Nat.eq_of_beq_eq_true hb).symm
  | false => rw [hb] at h; cases h
/-- The environment, where nothing may be deferred. -/
def Env.nodn (E : Env) : Env := { E with dn := fun _ => false }
theorem EnvOk.nodn (hE : EnvOk P E) : EnvOk P E.nodn where
  sum := hE.sum
  fns := hE.fns
  eff := EnvOk.eff' (E := E) (E' := E.nodn) rfl rfl rfl hE.eff
  dn := fun _ h => by cases h
  top := hE.top
  yl := EnvOk.yl' (E' := E.nodn) hE rfl rfl rfl rfl
/-- The environment with a function that catches. -/
def ctchF (E : Env) (rl : List Nat) (f n : Nat) (m : Nat) (xs : List PV) (H : Hp) : Option (Bool × Bool × (PV × Hp) × (PV × Hp)) :=
  bif noYH noYld (fun _ => true) H && fnAllL noYld (fun _ => true) xs then catchE E.nodn rl f n m xs H else none
def Env.ctch (E : Env) (rl : List Nat) (f n : Nat) : Env := { E with eff := ctchF E rl f n }
theorem ctch_ok (hE : EnvOk P E) {n f : Nat} (h : InlineOk P E.nodn (fun m xs H => armOf (catchE E.nodn rl f n m xs H))) : EnvOk P (E.ctch rl f n) where
  sum := hE.sum
  fns := hE.fns
  eff := by
    refine EnvOk.eff' (E := E) (E' := E.ctch rl f n) rfl rfl rfl fun y _ => ?_
    have h2 := InlineOk.env (E := E.nodn.ats y) (E' := E.ats y) rfl rfl rfl (inline_any h y)
    intro m args H r H' hc
    refine h2 m args H r H' ?_
    unfold yldFree
    have hc : armOf (ctchF E rl f n m args H) = some (r, H') := hc
    unfold ctchF at hc
    cases hb : (noYH noYld (fun _ => true) H && fnAllL noYld (fun _ => true) args) with
    | false => rw [hb] at hc; cases hc
    | true => rw [hb] at hc; exact hc
  dn := hE.dn
  top := hE.top
  yl := EnvOk.yl' (E' := E.ctch rl f n) hE rfl rfl rfl rfl
end
end Go.Pf
