/- Part 2 of what the statement rests on: a verified evaluator over pure values, the conditions of the program's functions, and their plain laws. -/
import Derived.Test.YtfdnnbmkmlhidaaAlW1
namespace Go.Pf
open Go Go.ChangeShapes Go.WideShapes Go.ChangeAt Go.RowKit
section
variable {H : Type} {enc : TypeId × Value → H} {P : Program}
theorem post_of_below' {f : Func} {s : ChangeSpec} {apart fresh handsOn again : Bool} {W W' : World} {args : Array Value} {v : Value} {ds gs : List (DataW H)} {before pa pv : List MemPlace}
   (hW : DataW.Whole enc P f.params.toList s.vars apart W args.toList ds gs before)
   (hres : ∀ (b : Nat) (sp : Nat → Bool) (hd : Bool), DataW.TrodAll enc P W' b sp hd f.resultTypes.toList (v.resultList f.resultTypes.size) (s.fn H (ds ++ gs)).results [])
   (hargs : ∀ sp : Nat → Bool, (∀ p ∈ before, sp p.block = true) → DataW.TrodAll enc P W' 0 sp true f.params.toList args.toList (s.fn H (ds ++ gs)).args pa)
   (hvars : ∀ sp : Nat → Bool, (∀ p ∈ before, sp p.block = true) → DataW.TrodVars enc P W' sp s.vars (s.fn H (ds ++ gs)).vars pv)
   (hps : before = pa ++ pv) (hb : Below W.heap.size W W')
   (hok : ∀ (j : Nat) (t : TypeId) (r : Value), f.resultTypes[j]? = some t → (v.resultList f.resultTypes.size)[j]? = some r → Value.okWide P W' .any 0 t r) :
   s.post enc P f apart fresh handsOn again W args v W' := by
 have hlt : ∀ p ∈ before, p.block < W.heap.size := fun p hp => hW.lt p hp
 have hold : ∀ p ∈ before, (fun b => decide (b < W.heap.size)) p.block = true := fun p hp => by simpa using hlt p hp
 refine ⟨ds, gs, before, [], pa, pv, hW, hres _ _ _, hargs _ hold, hvars _ hold, World.keptBut_mono (fun p hp => ⟨hp, ?_⟩) (hb.frame (· ∈ before)), fun _ => ?_⟩
 · rw [hps, List.mem_append] at hp
   exact Or.inr hp
 · obtain ⟨_, _, _, _, _, hz, hn⟩ := hW
   refine ⟨hok, _, _, ([] ++ pa) ++ pv, ⟨[] ++ pa, pv, trodAll_append (hargs _ (fun _ _ => rfl)) (hres _ _ _), hvars _ (fun _ _ => rfl), rfl, ?_, ?_⟩, ?_⟩
   · intro b off hp
     have hin : MemPlace.cell b off ∈ before := by rw [hps]; simpa using hp
     rw [hb.frozen (hlt _ hin)]
     exact hz b off hin
   · intro ha
     have := hn ha
     rw [hps] at this
     simpa using this
   · intro p hp _
     rw [hps]
     simpa using hp
theorem law_post (K : Kids P (· < P.types.size)) (hz : ∀ t e, t < P.types.size → P.underlying t = some (.slice e) → 0 < P.cellsOf e) {n : FuncId} {fn : Func} {G : Nat → Option PV} {dss : List DS} {s : ChangeSpec} {bt : TypeId}
   (hty : tyL P dss fn.params.toList = true) (hrow : ∀ t ∈ fn.params.toList, t < P.types.size) (hf : P.funcs[n]? = some fn) (hn : (fn.name == "runtime.NumGoroutine") = false) (hb : fn.body.isSome = true)
   (hvars : s.vars = []) (hfn : ∀ ds : List (DataW H), ds.length = fn.params.toList.length → s.fn H (ds ++ []) = { results := [.lit (.bool true)], args := ds })
   (hrt : fn.resultTypes.toList = [bt]) (hbt : P.underlying bt = some .bool) (hsum : ∀ as, HasAs dss as → SumOk P G n as (.bool true)) {apart fresh handsOn again : Bool}
   {W : World} {base : Nat} {args : Array Value} {ds gs : List (DataW H)} {before : List MemPlace} (hval : ∀ (j : Nat) t v, fn.params[j]? = some t → args[j]? = some v → Value.okWide P W .any base t v)
   (hW : DataW.Whole enc P fn.params.toList s.vars apart W args.toList ds gs before) (J : Nat → Prop) (hJ : ∀ b, J b → b < W.heap.size) (hG : GlobOk G (fun b => (∃ p ∈ before, p.block = b) ∨ J b) W) :
   Calls P n args W fun e W' => ∃ v, e = .returned v ∧ s.post enc P fn apart fresh handsOn again W args v W' := by
 have hW' := hW
 obtain ⟨p, q, hA, hV, hpq, hfz, hnd⟩ := hW
 have hlt : ∀ x ∈ before, x.block < W.heap.size := fun x hx => hW'.lt x hx
 rw [hvars] at hV
 obtain ⟨hgs, hq⟩ := trodVars_none hV
 subst hgs; subst hq
 rw [List.append_nil] at hpq
 subst hpq
 have hlen : ds.length = fn.params.toList.length := by
   have len : ∀ {ts : List TypeId} {vs : List Value} {xs : List (DataW H)} {ps : List MemPlace}, DataW.TrodAll enc P W 0 (fun _ => true) true ts vs xs ps → xs.length = ts.length := by
     intro ts
     induction ts with
     | nil =>
       intro vs xs ps h
       cases vs with
       | nil => cases xs with
         | nil => rfl
         | cons _ _ => exact h.elim
       | cons _ _ => exact h.elim
     | cons t ts ih =>
       intro vs xs ps h
       cases vs with
       | nil => exact h.elim
       | cons v vs => cases xs with
         | nil => exact h.elim
         | cons x xs =>
           obtain ⟨_, _, _, h2, _⟩ := h
           simp [ih h2]
   exact len hA
 have hc := law_calls (I := fun b => (∃ x ∈ before, x.block = b) ∨ J b) K hty hrow hf hn hb hsum (W := W) (base := base) (args := args) (fun j t v h1 h2 => hval j t v (by simpa using h1) (by simpa using h2)) hA (fun x hx => .inl ⟨x, hx, rfl⟩)
   (fun b hb => by
     rcases hb with ⟨x, hx, rfl⟩ | hb
     · exact hlt x hx
     · exact hJ b hb) hG
 refine hc.mono fun e W' ⟨he, hg⟩ => ?_
 subst he
 have hrs : fn.resultTypes = #[bt] := by rw [← Array.toList_inj]; exact hrt
 refine ⟨_, rfl, post_of_below' (pa := before) (pv := []) hW' ?_ ?_ ?_ (by simp) hg ?_⟩
 · intro b sp hd
   rw [hfn ds hlen, hrs]
   exact trodAll_mk1 (shut_bool hbt true)
 · intro sp hs
   rw [hfn ds hlen]
   exact args_again K hz hg hrow hA hlt hs
 · intro sp hs
   rw [hfn ds hlen, hvars]; rfl
 · intro j t r h1 h2
   rw [hrs] at h1 h2
   have hj : j = 0 := by
     rcases j with _ | j
     · rfl
     · simp at h1
   subst hj
   simp at h1
   subst h1
   have : r = .bool true := by
     have h3 : ((Value.bool true).resultList (#[bt] : Array TypeId).size)[0]? = some (.bool true) := rfl
     rw [h3] at h2
     exact (Option.some.inj h2).symm
   subst this
   exact okWide_bool_mk hbt true
end
end Go.Pf
namespace Go.Pf
open Go
def cellI : PV → Value
 | .int k n => .int k n
 | _ => .bool false
def okL : List IntKind → List PV → Bool
 | [], [] => true
 | k :: ks, .int q n :: r => decide (q = k) && (decide (k.min ≤ n) && (decide (n ≤ k.max) && okL ks r))
 | _, _ => false
def okI (ks : List IntKind) : PV → Bool
 | .agg cs => okL ks cs
 | _ => false
def encI (x : PV) : List Value := x.cells.map cellI
structure Srt where
 n : Nat
 g : Nat
 ks : List IntKind
 good : PV → Bool
 z : PV
def Srt.gd (s : Srt) (x : PV) : Bool := okI s.ks x && s.good x
abbrev Srt.El (s : Srt) : Type := {x : PV // s.gd x = true}
def Srt.enc (s : Srt) (x : s.El) : List Value := encI x.1
def Srt.rows? (s : Srt) : List PV → Option (List s.El)
 | [] => some []
 | x :: r => if h : s.gd x = true then (match s.rows? r with | some l => some (⟨x, h⟩ :: l) | none => none) else none
theorem Srt.rows?_val {s : Srt} : ∀ {l : List PV} {d : List s.El}, s.rows? l = some d → d.map (·.1) = l
 | [], d, h => by simp only [Srt.rows?] at h; cases h; rfl
 | x :: r, d, h => by
   simp only [Srt.rows?] at h
   split at h
   · split at h
     · rename_i l hl
       cases h
       rw [List.map_cons, Srt.rows?_val hl]
     · cases h
   · cases h
def Srt.sorted (s : Srt) (srt : Array s.El → Array s.El) (l : List PV) : List PV :=
 match s.rows? l with
 | some d => (srt d.toArray).toList.map (·.1)
 | none => l
def Srt.cond (s : Srt) (rows : List PV) (lo len ext esz : Nat) (fz : Bool) : Bool :=
 decide (rows.length = ext) && (decide (lo + len ≤ ext) && (decide (0 < len) && (decide (esz = s.ks.length) && (!fz && (decide (len < 4611686018427387904) && (s.rows? ((rows.drop lo).take len)).isSome)))))
def srtEff (s : Srt) (srt : Array s.El → Array s.El) (n : Nat) (xs : List PV) (H : Hp) : Option (Bool × Bool × (PV × Hp) × (PV × Hp)) :=
 bif Nat.beq n s.n then
   (match xs with
    | [.own id lo len ext _, .fn (.func g) [] []] =>
      bif Nat.beq g s.g then
        (match H[id]? with
         | some b => some (s.cond b.rows lo len ext b.esz b.fz, true, (.tup [], H.set id { b with rows := b.rows.take lo ++ (s.sorted srt ((b.rows.drop lo).take len) ++ b.rows.drop (lo + len)) }), (.nils, []))
         | none => none)
      else none
    | [.nils, .fn (.func g) [] []] => bif Nat.beq g s.g then some (true, true, (.tup [], H), (.nils, [])) else none
    | [.emp, .fn (.func g) [] []] => bif Nat.beq g s.g then some (true, true, (.tup [], H), (.nils, [])) else none
    | _ => none)
 else none
theorem srtEff_n {s : Srt} {srt : Array s.El → Array s.El} {n : Nat} {xs : List PV} {H : Hp} {x : Bool × Bool × (PV × Hp) × (PV × Hp)} (h : srtEff s srt n xs H = some x) : n = s.n := by
 unfold srtEff at h
 cases hb : Nat.beq n s.n with
 | true => exact Nat.eq_of_beq_eq_true hb
 | false => rw [hb] at h; cases h
structure Srts where
 s : Srt
 cf : s.El → s.El → Int
def Srts.srt (s : Srts) [Inhabited s.s.El] (d : Array s.s.El) : Array s.s.El := Go.Sort.pdq (fun x y => decide (s.cf x y < 0)) d 0 d.size (Go.Lib.bitLen d.size) true true
theorem cloneI_mt {E : Env} {n esz bytes : Nat} {z : PV} (hf : E.fns n = some (cloneA esz bytes z)) (he : ∀ as H, E.eff n as H = none) (b : Bool) (H : Hp) : inline E 12 n [.mt b] H = some (bif b then .nils else .emp, H) := by
 cases b <;> simp [inline, Env.effx, armOf, he, exec, hf, cloneA, runReg, runOps, stepOp, guardOk, opOut, evV, ev, frame0, fget, fset, fdels, fdel, putBx, putDst, outV, Option.map, ressOf, resOf, packed, appV, rowsOf, headOk, srcOk]
theorem cloneI_cons {E : Env} {n esz bytes : Nat} {z : PV} (hf : E.fns n = some (cloneA esz bytes z)) (he : ∀ as H, E.eff n as H = none) {x : PV} {r : List PV} (h : cloneOk esz bytes (x :: r) = true) (H : Hp) :
   inline E 12 n [.data (x :: r)] H = some (.own H.length 0 (x :: r).length (x :: r).length none, H ++ [⟨false, true, esz, x :: r⟩]) := by
 simp only [cloneOk, Bool.and_eq_true, decide_eq_true_eq, List.length_cons] at h
 obtain ⟨h1, h2⟩ := h
 simp [inline, Env.effx, armOf, he, exec, hf, cloneA, runReg, runOps, stepOp, guardOk, opOut, evV, ev, frame0, fget, fset, fdels, fdel, putBx, putDst, outV, Option.map, ressOf, resOf, packed, appV, rowsOf, h1, srcOk, appFresh, h2]
abbrev EffF : Type := Nat → List PV → Hp → Option (Bool × Bool × (PV × Hp) × (PV × Hp))
def lookE : List (Nat × EffF) → EffF
 | [], _, _, _ => none
 | (k, e) :: r, n, xs, H => bif Nat.beq n k then (match e n xs H with | some x => some x | none => lookE r n xs H) else lookE r n xs H
theorem lookE_n : ∀ {l : List (Nat × EffF)} {n : Nat} {xs : List PV} {H : Hp} {x : Bool × Bool × (PV × Hp) × (PV × Hp)}, lookE l n xs H = some x → ∃ e ∈ l, n = e.1
 | [], _, _, _, _, h => by cases h
 | (k, e) :: r, n, xs, H, x, h => by
   simp only [lookE] at h
   cases hb : Nat.beq n k with
   | true => exact ⟨(k, e), List.mem_cons_self, Nat.eq_of_beq_eq_true hb⟩
   | false =>
     rw [hb, cond_false] at h
     obtain ⟨e2, h1, h2⟩ := lookE_n h
     exact ⟨e2, List.mem_cons_of_mem _ h1, h2⟩
theorem lookE_sound {P : Program} {E : Env} : ∀ {l : List (Nat × EffF)}, (∀ e ∈ l, InlineOk P E (fun n xs H => armOf (e.2 n xs H))) → InlineOk P E (fun n xs H => armOf (lookE l n xs H))
 | [], _ => fun _ _ _ _ _ h => by cases h
 | (k, e) :: r, h => by
   intro f args H q H' hc
   dsimp only [lookE] at hc
   cases hb : Nat.beq f k with
   | false =>
     rw [hb, cond_false] at hc
     exact lookE_sound (fun e2 h2 => h e2 (List.mem_cons_of_mem _ h2)) f args H q H' hc
   | true =>
     rw [hb, cond_true] at hc
     cases he : e f args H with
     | some x =>
       rw [he] at hc
       refine h (k, e) List.mem_cons_self f args H q H' ?_
       dsimp only
       rw [he]
       exact hc
     | none =>
       rw [he] at hc
       exact lookE_sound (fun e2 h2 => h e2 (List.mem_cons_of_mem _ h2)) f args H q H' hc
def baseS (add sub : Nat) (tab : List (Nat × AFn)) (qui : List Nat) (cl : Clones) (gl : List (Nat × PV)) (ef : List (Nat × EffF)) : Env := { baseC add sub tab qui cl gl with eff := lookE ef }
theorem baseS_none {add sub : Nat} {tab : List (Nat × AFn)} {qui : List Nat} {cl : Clones} {gl : List (Nat × PV)} {ef : List (Nat × EffF)} {n : Nat} (h : special add sub cl n = false) (xs : List PV) : (baseS add sub tab qui cl gl ef).sum n xs = none := baseC_none (tab := tab) (qui := qui) (gl := gl) h xs
theorem baseS_eff {add sub : Nat} {tab : List (Nat × AFn)} {qui : List Nat} {cl : Clones} {gl : List (Nat × PV)} {ef : List (Nat × EffF)} (h : (ef.all fun e => !memN qui e.1 && !special add sub cl e.1) = true) : EffOk (baseS add sub tab qui cl gl ef) := by
 intro n xs H x hx
 obtain ⟨e, h1, rfl⟩ := lookE_n hx
 have h2 := List.all_eq_true.1 h e h1
 simp only [Bool.and_eq_true, Bool.not_eq_true'] at h2
 exact ⟨h2.1, rfl, fun xs => baseS_none (tab := tab) (qui := qui) (gl := gl) (ef := ef) h2.2 xs⟩
theorem baseS_ok {P : Program} {add sub : Nat} {tab : List (Nat × AFn)} {qui : List Nat} {cl : Clones} {gl : List (Nat × PV)} {ef : List (Nat × EffF)} (h : EnvOk P (baseC add sub tab qui cl gl))
   (hs : ∀ e ∈ ef, InlineOk P (baseC add sub tab qui cl gl) (fun n xs H => armOf (e.2 n xs H))) : EnvOk P (baseS add sub tab qui cl gl ef) where
 sum := h.sum
 fns := h.fns
 eff := InlineOk.env (E := baseC add sub tab qui cl gl) (E' := baseS add sub tab qui cl gl ef) rfl (lookE_sound hs)
end Go.Pf
namespace Go.Pf
abbrev lt {α : Type} (x : α) (f : α → Prop) : Prop := f x
abbrev jn {α : Type} (f : α → Prop) (k : α) : Prop := f k
def rvB (n d : Int) : Bool := decide (1 ≤ d) && (decide (d ≤ 1000000000000000000) && (decide (-1000000000000000000 ≤ n) && (decide (n ≤ 1000000000000000000) && decide (Nat.gcd n.natAbs d.natAbs = 1))))
def cmpI (a b c d : Int) : Int := if a * d < c * b then -1 else if c * b < a * d then 1 else 0
def spGood : PV → Bool
 | .agg [.int _ a, .int _ b, _, _] => rvB a b
 | _ => false
def rtGood : PV → Bool
 | .agg [.int _ a, .int _ b] => rvB a b
 | _ => false
def spCmp : PV → PV → Int
 | .agg [.int _ a, .int _ b, _, _], .agg [.int _ c, .int _ d, _, _] => cmpI a b c d
 | _, _ => 0
def rtCmp : PV → PV → Int
 | .agg [.int _ a, .int _ b], .agg [.int _ c, .int _ d] => cmpI a b c d
 | _, _ => 0
def spSrt (n g : Nat) : Srts := ⟨⟨n, g, [.i64, .i64, .i64, .i64], spGood, .agg [.int .i64 0, .int .i64 1, .int .i64 0, .int .i64 1]⟩, fun x y => spCmp x.1 y.1⟩
def rtSrt (n g : Nat) : Srts := ⟨⟨n, g, [.i64, .i64], rtGood, .agg [.int .i64 0, .int .i64 1]⟩, fun x y => rtCmp x.1 y.1⟩
instance (n g : Nat) : Inhabited (spSrt n g).s.El := ⟨⟨.agg [.int .i64 0, .int .i64 1, .int .i64 0, .int .i64 1], rfl⟩⟩
instance (n g : Nat) : Inhabited (rtSrt n g).s.El := ⟨⟨.agg [.int .i64 0, .int .i64 1], rfl⟩⟩
theorem lookE_none {n : Nat} {xs : List PV} {H : Hp} : ∀ {l : List (Nat × EffF)}, memN (l.map (·.1)) n = false → lookE l n xs H = none
 | [], _ => rfl
 | (k, e) :: r, h => by
   simp only [List.map_cons, memN] at h
   simp only [lookE]
   cases hb : Nat.beq k n with
   | true => rw [hb] at h; cases h
   | false =>
     rw [hb, cond_false] at h
     have hb2 : Nat.beq n k = false := by
       cases hc : Nat.beq n k with
       | false => rfl
       | true =>
         have := Nat.eq_of_beq_eq_true hc
         subst this
         rw [Nat.beq_refl] at hb
         cases hb
     rw [hb2, cond_false]
     exact lookE_none h
structure EffG (E : List (Nat × EffF) → Env) (nums : List Nat) (e : List (Nat × EffF)) : Prop where
 ok : EffOk (E e)
 num : ∀ n, memN nums n = false → ∀ xs H, (E e).eff n xs H = none
end Go.Pf
namespace Go.Pf
open Go Go.Sort
theorem Srts.srt_size (S : Srts) [Inhabited S.s.El] (h : SWO (fun x y => decide (S.cf x y < 0))) (d : Array S.s.El) : (S.srt d).size = d.size :=
 (pdq_sorts _ h d 0 d.size (Go.Lib.bitLen d.size) true true (Nat.zero_le _) (Nat.le_refl _) (Or.inl rfl)).1.1
theorem Srts.sorted_is (S : Srts) [Inhabited S.s.El] (h : SWO (fun x y => decide (S.cf x y < 0))) {rows : List PV} {d : List S.s.El} (hd : S.s.rows? rows = some d) :
   ∃ d' : List S.s.El, d'.Perm d ∧ d'.Pairwise (fun x y => ¬ S.cf y x < 0) ∧ Srt.sorted S.s S.srt rows = d'.map (·.1) := by
 have e : Srt.sorted S.s S.srt rows = (S.srt d.toArray).toList.map (·.1) := by unfold Srt.sorted; rw [hd]
 obtain ⟨⟨h1, _, h3⟩, h4⟩ := pdq_sorts _ h d.toArray 0 d.toArray.size (Go.Lib.bitLen d.toArray.size) true true (Nat.zero_le _) (Nat.le_refl _) (Or.inl rfl)
 refine ⟨(S.srt d.toArray).toList, ?_, ?_, e⟩
 · have h5 : (S.srt d.toArray).size = d.toArray.size := h1
   have e1 : (S.srt d.toArray).extract 0 d.toArray.size = S.srt d.toArray := by rw [← h5]; exact Array.extract_size
   have e2 : d.toArray.extract 0 d.toArray.size = d.toArray := Array.extract_size
   have h6 : ((S.srt d.toArray).extract 0 d.toArray.size).toList.Perm (d.toArray.extract 0 d.toArray.size).toList := h3
   rw [e1, e2] at h6
   simpa using h6
 · have h5 : (S.srt d.toArray).size = d.toArray.size := h1
   rw [List.pairwise_iff_getElem]
   intro i j hi hj hij hlt
   rw [Array.length_toList] at hi hj
   have h6 : SortedIn (fun x y => decide (S.cf x y < 0)) 0 d.toArray.size (S.srt d.toArray) := h4
   have := h6 i j (Nat.zero_le _) hij (by rw [← h5]; exact hj)
   rw [getElem!_pos (S.srt d.toArray) i hi, getElem!_pos (S.srt d.toArray) j hj] at this
   simp only [Array.getElem_toList] at hlt
   simp [hlt] at this
end Go.Pf
namespace Go.Pf
open Go Go.RowKit
def clnDOk (esz bytes : Nat) (rows : List PV) (lo len ext : Nat) (pu : Bool) : Bool :=
 decide (rows.length = ext) && (decide (lo + len ≤ ext) && (pu && (((rows.drop lo).take len).all PV.scal && cloneOk esz bytes ((rows.drop lo).take len))))
def clnDEff (k esz bytes n : Nat) (xs : List PV) (H : Hp) : Option (Bool × Bool × (PV × Hp) × (PV × Hp)) :=
 bif Nat.beq n k then
   (match xs with
    | [.own id lo len ext _] => (match H[id]? with
      | some b => some (clnDOk esz bytes b.rows lo len ext b.pu, true, (.data ((b.rows.drop lo).take len), H), (.nils, H))
      | none => none)
    | _ => none)
 else none
theorem RC_scal {I I' : Nat → Prop} {w : World} {x : PV} {vs : List Value} (hs : x.scal = true) (h : RC I w x vs) : RC I' w x vs := by
 cases x <;> simp [PV.scal] at hs <;> simpa only [RC] using h
theorem RowsC_scal {I I' : Nat → Prop} {w : World} : ∀ (l : List PV) (esz b o : Nat), l.all PV.scal = true → RowsC I w l esz b o → RowsC I' w l esz b o
 | [], _, _, _, _, _ => by simp only [RowsC]
 | x :: r, esz, b, o, hs, h => by
   simp only [List.all_cons, Bool.and_eq_true] at hs
   simp only [RowsC] at h ⊢
   obtain ⟨⟨vs, h1, h2, h3⟩, h4⟩ := h
   exact ⟨⟨vs, h1, RC_scal hs.1 h2, h3⟩, RowsC_scal r esz b (o + esz) hs.2 h4⟩
theorem clnD_sound {P : Program} {E : Env} {k esz bytes : Nat} {z : PV} (hf : E.fns k = some (cloneA esz bytes z)) (he : ∀ as H, E.eff k as H = none) (hcall : InlineOk P E (inline E 12)) :
   InlineOk P E (fun n xs H => armOf (clnDEff k esz bytes n xs H)) := by
 intro f args H r H' h nt g F tmps w vs hr hv
 dsimp only at h
 unfold armOf at h
 split at h
 case h_2 => cases h
 rename_i c t x y hc
 unfold clnDEff at hc
 cases hb : Nat.beq f k with
 | false => rw [hb] at hc; cases hc
 | true =>
   rw [hb, cond_true] at hc
   obtain rfl := Nat.eq_of_beq_eq_true hb
   split at hc
   case h_2 => cases hc
   rename_i id lo len ext cap
   split at hc
   case h_2 => cases hc
   rename_i b hid
   simp only [Option.some.injEq, Prod.mk.injEq] at hc
   obtain ⟨hk, rfl, rfl, rfl⟩ := hc
   simp only [cond_true, Option.some.injEq, Prod.mk.injEq] at h
   obtain ⟨rfl, rfl⟩ := h
   simp only [clnDOk, Bool.and_eq_true, decide_eq_true_eq] at hk
   obtain ⟨k1, k2, k3, k4, k5⟩ := hk
   simp only [VRs] at hv
   obtain ⟨v, _, rfl, hv, rfl⟩ := hv
   have hp : purify1 H (.own id lo len ext cap) = some (.data ((b.rows.drop lo).take len), H.set id { b with fz := true }) := by
     simp only [purify1, hid]
     rw [if_pos ⟨k1, k2, k3⟩]
   obtain ⟨g1, r1, _, _, _, c1, _⟩ := purify1_sound hr hv hp
   generalize hrows : (b.rows.drop lo).take len = rows at *
   let g0 : Gh := ⟨fun _ => none, fun _ => none, g1.I⟩
   have r0 : Rel E 0 g0 [] [] #[] w := by
     refine ⟨Nat.zero_le _, fun s fv e => by simp [fget] at e, fun id hb e => by simp at e, fun id id' hb b o b' o' e => by simp at e, fun id b o e => by simp [g0] at e, fun s s' b e => by simp [g0] at e, fun s b id o e => by simp [g0] at e, fun s b e => by simp [g0] at e, r1.imm, r1.glob⟩
   have noR : ∀ b, ¬ RngR g0 b := fun b ⟨id, o, e⟩ => by simp [g0] at e
   have noM : ∀ b, ¬ MutF g0 b := fun b ⟨s, e⟩ => by simp [g0] at e
   have bel : ∀ {g2 : Gh} {H2 : Hp} {w' : World}, Nx g0 g2 [] H2 w w' → Bel w.heap.size w w' := fun n => ⟨⟨n.os, n.tape, n.output, n.size, fun k hk => n.kept k hk (noR k) (noM k)⟩, n.drawn⟩
   cases rows with
   | cons q l =>
     have hv0 : VRs g0 [] w [.data (q :: l)] [v] := by
       simp only [VRs, VR]
       exact ⟨v, [], rfl, c1, rfl⟩
     refine (hcall _ _ _ _ _ (cloneI_cons hf he k5 []) 0 g0 [] #[] w [v] r0 hv0).mono fun v' w' ⟨g2, n2, r2, hv2⟩ => ?_
     obtain ⟨g3, r3, n3, _, _, i3⟩ := hr.grew (bel n2)
     refine ⟨g3, n3, r3, ?_⟩
     simp only [VR] at hv2
     obtain ⟨hb', a, c, e1, _, e3, e4, e5, _, e6⟩ := hv2
     simp only [List.nil_append, List.length_nil, List.getElem?_cons_zero, Option.some.injEq] at e1
     subst e1
     obtain ⟨b2, o2, e7, _, e8, _⟩ := e6 rfl
     obtain ⟨b3, o3, hblk⟩ := r2.heap 0 _ rfl
     have e9 := hblk.at_
     rw [show g2.ρ 0 = some (b2, o2) from e7] at e9
     simp only [Option.some.injEq, Prod.mk.injEq] at e9
     obtain ⟨rfl, rfl⟩ := e9
     have hc : c ≠ 0 := by
       simp only [List.length_cons] at e4
       omega
     have ha := e8 hc
     subst ha
     have hge : w.heap.size ≤ b2 := by
       rcases Nat.lt_or_ge b2 w.heap.size with hlt | hge
       · exact absurd (n2.rng b2 hlt ⟨_, _, e7⟩) (noR b2)
       · exact hge
     have hlt := r2.brng ⟨_, _, e7⟩
     simp only [VR, RC]
     refine ⟨_, _, c, by rw [e3], rfl, e4, e5, .inr ⟨b2, o2, esz, ?_, ?_, hblk.esz, RowsC_scal _ _ _ _ k4 (hblk.pure rfl)⟩⟩
     · simp
     · rw [i3]; exact .inr ⟨hge, hlt⟩
   | nil =>
     simp only [RC] at c1
     obtain ⟨a, ln, cp, e1, e2, _, e4, _⟩ := c1
     simp only [List.cons.injEq, and_true] at e1
     simp only [List.length_nil] at e2
     subst e2 e1
     have hv0 : VRs g0 [] w [.mt a.isNone] [.slice a 0 cp] := by
       simp only [VRs, VR]
       exact ⟨_, _, rfl, ⟨a, cp, rfl, e4, rfl⟩, rfl⟩
     refine (hcall _ _ _ _ _ (cloneI_mt hf he a.isNone []) 0 g0 [] #[] w _ r0 hv0).mono fun v' w' ⟨g2, n2, _, hv2⟩ => ?_
     obtain ⟨g3, r3, n3, _, _, _⟩ := hr.grew (bel n2)
     refine ⟨g3, n3, r3, ?_⟩
     simp only [VR, RC]
     cases hn : a.isNone with
     | true =>
       rw [hn] at hv2
       simp only [cond_true, VR] at hv2
       exact ⟨none, 0, 0, by rw [hv2], rfl, Nat.le_refl _, by decide, .inl trivial⟩
     | false =>
       rw [hn] at hv2
       simp only [cond_false, VR] at hv2
       obtain ⟨a2, hv2⟩ := hv2
       exact ⟨a2, 0, 0, by rw [hv2], rfl, Nat.le_refl _, by decide, .inl trivial⟩
end Go.Pf
namespace Go.Pf.Vc
open Go Go.Pf
def n_r05_Great : Nat := 17
def n_r01_abs : Nat := 42
def n_r01_gcd : Nat := 43
def n_r01_Check : Nat := 15
def n_r01_Both : Nat := 55
def n_r01_Of : Nat := 56
def n_r01_times : Nat := 45
def n_r01_less : Nat := 46
def n_r01_Less : Nat := 16
def n_r02_Point : Nat := 71
def n_r05_right : Nat := 49
def n_r05_Check : Nat := 23
def n_l05_valid : Nat := 8
def n_l05_of : Nat := 32
def n_l05_value : Nat := 30
def n_l05_mark : Nat := 31
def n_ratio_size : Nat := 66
def n_ratio_gcd : Nat := 67
def n_ratio_Check : Nat := 72
def n_cmp_Or_api_Errno : Nat := 84
def n_ratio_check : Nat := 73
def n_cmp_isNaN_int64 : Nat := 107
def n_cmp_Compare_int64 : Nat := 99
def n_m_Mul64 : Nat := 74
def n_cmp_isNaN_uint64 : Nat := 108
def n_cmp_Compare_uint64 : Nat := 101
def n_cmp_Or_int : Nat := 100
def n_ratio_Cmp : Nat := 82
def n_audit_order : Nat := 60
def n_audit_whole : Nat := 58
def n_audit_claimed : Nat := 57
def n_audit_claims : Nat := 33
def n_audit_scale : Nat := 39
def n_m_Len32 : Nat := 97
def n_m_Len64 : Nat := 98
def n_m_Len : Nat := 81
def n_slices_insertionSortCmpFunc_api_Ratio : Nat := 89
def n_slices_pdqsortCmpFunc_api_Ratio : Nat := 80
def n_s_SortFunc_api_Ratio_api_Ratio : Nat := 59
def n_s_Compact_api_Ratio_api_Ratio : Nat := 61
def n_audit_pointsOf : Nat := 34
def n_s_BinarySearchFunc_api_Ratio_api_Ratio_api_Ratio : Nat := 63
def n_audit_heights_1 : Nat := 62
def n_s_Clone_int64_int64 : Nat := 64
def n_s_Equal_int64_int64 : Nat := 65
def n_audit_heights : Nat := 40
def n_ratio_signed : Nat := 68
def n_ratio_Make : Nat := 41
def n_audit_Guess : Nat := 13
def n_audit_First : Nat := 20
def n_r05_SameList : Nat := 24
def n_r05_Same : Nat := 25
def n_l05_alive : Nat := 9
def n_audit_Points : Nat := 10
def n_r05_Told : Nat := 35
def n_r05_gcd : Nat := 36
def n_r05_Scale : Nat := 11
def n_r05_At : Nat := 37
def n_r05_To : Nat := 38
def n_l05_obeyed : Nat := 12
def n_r01_made : Nat := 44
def n_r01_Make : Nat := 14
def n_l05_AuditLeast : Nat := 3
def n_m_Add64 : Nat := 75
def n_m_Sub64 : Nat := 76
def t_r05_Great : TFn := ⟨1, [.tmp 2], (.seq (oQ [O 2 (.mv (.c (.bool false)))] [2]) (.seq (oQ [M 3 0, O 4 (.len (.t 3)), O 5 (.bin .gtr (.t 4) (I 14)), M 6 5, ⟨some 7, (.mv (.t 0)), some (6, true)⟩, ⟨some 8, (.len (.t 7)), some (6, true)⟩, ⟨some 9, (.bin .leq (.t 8) (I 40)), some (6, true)⟩, O 10 (.pick (.t 6) (.t 9) (.c (.bool false))), M 11 10, ⟨some 12, (.mv (.t 0)), some (11, false)⟩, ⟨some 13, (.len (.t 12)), some (11, false)⟩, ⟨some 14, (.bin .gtr (.t 13) (I 60)), some (11, false)⟩, O 15 (.pick (.t 11) (.c (.bool true)) (.t 14)), M 2 15] [0, 3, 4, 5, 6, 7, 8, 9, 10, 11, 12, 13, 14, 15]) .ret))⟩
def t_r01_abs : TFn := ⟨1, [.tmp 2], (.seq (oQ [O 2 (.mv (.c (.int .u64 (0))))] [2]) (.seq (.seq (oQ [M 3 0, O 4 (.bin .lss (.t 3) (I 0))] [3]) (.cond (.t 4) (.seq (oQ [M 5 0, O 6 (.bin .add (.t 5) (I 1)), O 7 (.un .neg (.t 6)), O 8 (.conv .u64 (.t 7)), O 9 (.bin .add (.t 8) (.c (.int .u64 (1)))), M 2 9] [0, 4, 5, 6, 7, 8, 9]) .ret) .skip)) (.seq (oQ [M 10 0, O 11 (.conv .u64 (.t 10)), M 2 11] [0, 4, 10, 11]) .ret)))⟩
def b_16774900 : TCode := (.seq (.seq (oQ [M 5 1, O 6 (.bin .neq (.t 5) (.c (.int .u64 (0))))] [5]) (.cond (.t 6) .skip (.exit 0))) (.block 1 (.ops [M 7 1, M 8 0, M 9 1, oX 10 .rem 8 9, M 0 7, M 1 10] [] [(0, 1), (0, 2), (1, 2), (0, 3), (2, 4), (3, 4)] [6, 7, 8, 9, 10])))
def t_r01_gcd : TFn := ⟨2, [.tmp 4], (.seq (oQ [O 4 (.mv (.c (.int .u64 (0))))] [4]) (.seq (.block 0 (.loop 16774900 b_16774900)) (.seq (oQ [M 11 0, M 4 11] [0, 1, 6, 11]) .ret)))⟩
def t_r01_Check : TFn := ⟨1, [.tmp 2], (.seq (oQ [O 1 (.boxL (.t 0)), O 2 (.mv (I 0))] [0, 2]) (.seq (.seq (.ops [O 3 (.fad 1 (.t 1)), oF 4 1 3, O 5 (.bin .lss (.t 4) (I 1)), M 6 5, ⟨some 7, (.fad 1 (.t 1)), some (6, false)⟩, ⟨some 8, (.load false 1 (.t 7)), some (6, false)⟩, ⟨some 9, (.bin .gtr (.t 8) (I 1000000000000000000)), some (6, false)⟩, O 10 (.pick (.t 6) (.c (.bool true)) (.t 9)), M 11 10, ⟨some 12, (.fad 0 (.t 1)), some (11, false)⟩, ⟨some 13, (.load false 1 (.t 12)), some (11, false)⟩, ⟨some 14, (.bin .lss (.t 13) (I (-1000000000000000000))), some (11, false)⟩, O 15 (.pick (.t 11) (.c (.bool true)) (.t 14)), M 16 15, ⟨some 17, (.fad 0 (.t 1)), some (16, false)⟩, ⟨some 18, (.load false 1 (.t 17)), some (16, false)⟩, ⟨some 19, (.bin .gtr (.t 18) (I 1000000000000000000)), some (16, false)⟩, O 20 (.pick (.t 16) (.c (.bool true)) (.t 19)), M 21 20, ⟨some 22, (.fad 0 (.t 1)), some (21, false)⟩, ⟨some 23, (.load false 1 (.t 22)), some (21, false)⟩, ⟨some 24, (.call (.f n_r01_abs) [(.t 23)]), some (21, false)⟩, ⟨some 25, (.fad 1 (.t 1)), some (21, false)⟩, ⟨some 26, (.load false 1 (.t 25)), some (21, false)⟩, ⟨some 27, (.conv .u64 (.t 26)), some (21, false)⟩, ⟨some 28, (.call (.f n_r01_gcd) [(.t 24), (.t 27)]), some (21, false)⟩, ⟨some 29, (.bin .neq (.t 28) (.c (.int .u64 (1)))), some (21, false)⟩, O 30 (.pick (.t 21) (.c (.bool true)) (.t 29))] [⟨1, (.agg [.i .i64, .i .i64]), 0⟩, ⟨5, (.agg [.i .i64, .i .i64]), 0⟩, ⟨10, (.agg [.i .i64, .i .i64]), 0⟩, ⟨15, (.agg [.i .i64, .i .i64]), 0⟩, ⟨20, (.agg [.i .i64, .i .i64]), 0⟩, ⟨23, (.agg [.i .i64, .i .i64]), 0⟩] [(19, 22), (20, 22), (21, 22), (19, 23), (20, 23), (21, 23), (19, 24), (20, 24), (21, 24)] [1, 3, 4, 5, 6, 7, 8, 9, 10, 11, 12, 13, 14, 15, 16, 17, 18, 19, 20, 21, 22, 23, 24, 25, 26, 27, 28, 29]) (.cond (.t 30) (.seq (oQ [O 2 (.mv (I 8))] [30]) .ret) .skip)) (.seq (oQ [O 2 (.mv (I 0))] [30]) .ret)))⟩
def t_r01_Both : TFn := ⟨2, [.tmp 4], (.seq (oQ [O 2 (.boxL (.t 0)), O 3 (.boxL (.t 1)), O 4 (.mv (I 0))] [0, 1, 4]) (.seq (.seq (oQ [oT 5 2 2, O 6 (.call (.f n_r01_Check) [(.t 5)]), O 7 (.bin .neq (.t 6) (I 0))] [5, 6]) (.cond (.t 7) (.seq (oQ [oT 8 2 2, O 9 (.call (.f n_r01_Check) [(.t 8)]), M 4 9] [2, 3, 7, 8, 9]) .ret) .skip)) (.seq (oQ [oT 10 2 3, O 11 (.call (.f n_r01_Check) [(.t 10)]), M 4 11] [2, 3, 7, 10, 11]) .ret)))⟩
def t_r01_Of : TFn := ⟨1, [.cell 2 true 2], (.seq (oQ [O 2 (.allocL (.agg [(.int .i64 (0)), (.int .i64 (0))]))] []) (.seq (oQ [M 3 0, O 4 (.build [(.int .i64 (0)), (.int .i64 (0))] [(0, 1, (.t 3)), (1, 1, (I 1))]), ⟨none, (.store 2 (.t 2) (.t 4)), none⟩] [0, 3, 4]) .ret))⟩
def t_r01_times : TFn := ⟨2, [.cell 4 true 2], (.seq (oQ [O 4 (.allocL (.agg [(.int .u64 (0)), (.int .u64 (0))]))] []) (.seq (oQ [M 12 0, O 13 (.bin .shr (.t 12) (.c (.int .u64 (32)))), M 14 0, O 15 (.bin .and (.t 14) (.c (.int .u64 (4294967295)))), M 5 13, M 6 15] [0, 12, 13, 14, 15]) (.seq (oQ [M 16 1, O 17 (.bin .shr (.t 16) (.c (.int .u64 (32)))), M 18 1, O 19 (.bin .and (.t 18) (.c (.int .u64 (4294967295)))), M 7 17, M 8 19] [1, 16, 17, 18, 19]) (.seq (oQ [M 20 6, M 21 8, oX 22 .mul 20 21, M 23 5, M 24 8, oX 25 .mul 23 24, M 9 22, M 10 25] [8, 20, 21, 22, 23, 24, 25]) (.seq (oQ [M 26 10, O 27 (.bin .and (.t 26) (.c (.int .u64 (4294967295)))), M 28 6, M 29 7, oX 30 .mul 28 29, oX 31 .add 27 30, M 32 9, O 33 (.bin .shr (.t 32) (.c (.int .u64 (32)))), oX 34 .add 31 33, M 11 34] [6, 26, 27, 28, 29, 30, 31, 32, 33, 34]) (.seq (oQ [M 35 5, M 36 7, oX 37 .mul 35 36, M 38 10, O 39 (.bin .shr (.t 38) (.c (.int .u64 (32)))), oX 40 .add 37 39, M 41 11, O 42 (.bin .shr (.t 41) (.c (.int .u64 (32)))), oX 43 .add 40 42, M 44 11, O 45 (.bin .shl (.t 44) (.c (.int .u64 (32)))), M 46 9, O 47 (.bin .and (.t 46) (.c (.int .u64 (4294967295)))), oX 48 .or 45 47, O 49 (.build [(.int .u64 (0)), (.int .u64 (0))] [(0, 1, (.t 43)), (1, 1, (.t 48))]), ⟨none, (.store 2 (.t 4) (.t 49)), none⟩] [5, 7, 9, 10, 11, 35, 36, 37, 38, 39, 40, 41, 42, 43, 44, 45, 46, 47, 48, 49]) .ret))))))⟩
def t_r01_less : TFn := ⟨2, [.tmp 4], (.seq (oQ [O 2 (.boxL (.t 0)), O 3 (.boxL (.t 1)), O 4 (.mv (.c (.bool false)))] [0, 1, 4]) (.seq (.ops [O 5 (.fad 0 (.t 2)), oF 6 1 5, O 7 (.fad 0 (.t 3)), oF 8 1 7, oX 9 .lss 6 8, M 10 9, ⟨some 11, (.fad 0 (.t 2)), some (10, false)⟩, ⟨some 12, (.load false 1 (.t 11)), some (10, false)⟩, ⟨some 13, (.fad 0 (.t 3)), some (10, false)⟩, ⟨some 14, (.load false 1 (.t 13)), some (10, false)⟩, ⟨some 15, (.bin .eql (.t 12) (.t 14)), some (10, false)⟩, ⟨some 16, (.mv (.t 15)), some (10, false)⟩, ⟨some 17, (.fad 1 (.t 2)), some (16, true)⟩, ⟨some 18, (.load false 1 (.t 17)), some (16, true)⟩, ⟨some 19, (.fad 1 (.t 3)), some (16, true)⟩, ⟨some 20, (.load false 1 (.t 19)), some (16, true)⟩, ⟨some 21, (.bin .lss (.t 18) (.t 20)), some (16, true)⟩, ⟨some 22, (.pick (.t 16) (.t 21) (.c (.bool false))), some (10, false)⟩, O 23 (.pick (.t 10) (.c (.bool true)) (.t 22)), M 4 23] [⟨1, (.agg [.i .u64, .i .u64]), 0⟩, ⟨3, (.agg [.i .u64, .i .u64]), 0⟩, ⟨7, (.agg [.i .u64, .i .u64]), 0⟩, ⟨9, (.agg [.i .u64, .i .u64]), 0⟩, ⟨13, (.agg [.i .u64, .i .u64]), 0⟩, ⟨15, (.agg [.i .u64, .i .u64]), 0⟩] [] [2, 3, 5, 6, 7, 8, 9, 10, 11, 12, 13, 14, 15, 16, 17, 18, 19, 20, 21, 22, 23]) .ret))⟩
def t_r01_Less : TFn := ⟨2, [.tmp 4], (.seq (oQ [O 2 (.boxL (.t 0)), O 3 (.boxL (.t 1)), O 4 (.mv (.c (.bool false)))] [0, 1, 4]) (.seq (.seq (.ops [O 7 (.fad 0 (.t 2)), oF 8 1 7, O 9 (.bin .lss (.t 8) (I 0)), O 10 (.fad 0 (.t 3)), oF 11 1 10, O 12 (.bin .lss (.t 11) (I 0)), O 13 (.eqB true (.t 9) (.t 12))] [⟨1, (.agg [.i .i64, .i .i64]), 0⟩, ⟨4, (.agg [.i .i64, .i .i64]), 0⟩] [] [7, 8, 9, 10, 11, 12]) (.cond (.t 13) (.seq (.ops [O 14 (.fad 0 (.t 2)), oF 15 1 14, O 16 (.bin .lss (.t 15) (I 0)), M 4 16] [⟨1, (.agg [.i .i64, .i .i64]), 0⟩] [] [2, 3, 13, 14, 15, 16]) .ret) .skip)) (.seq (.ops [O 17 (.fad 0 (.t 2)), oF 18 1 17, O 19 (.call (.f n_r01_abs) [(.t 18)]), O 20 (.fad 1 (.t 3)), oF 21 1 20, O 22 (.conv .u64 (.t 21)), O 23 (.call (.f n_r01_times) [(.t 19), (.t 22)]), O 24 (.fad 0 (.t 3)), oF 25 1 24, O 26 (.call (.f n_r01_abs) [(.t 25)]), O 27 (.fad 1 (.t 2)), oF 28 1 27, O 29 (.conv .u64 (.t 28)), O 30 (.call (.f n_r01_times) [(.t 26), (.t 29)]), O 5 (.allocL (.agg [(.int .u64 (0)), (.int .u64 (0))])), O 6 (.allocL (.agg [(.int .u64 (0)), (.int .u64 (0))])), ⟨none, (.store 2 (.t 5) (.t 23)), none⟩, ⟨none, (.store 2 (.t 6) (.t 30)), none⟩] [⟨1, (.agg [.i .i64, .i .i64]), 0⟩, ⟨4, (.agg [.i .i64, .i .i64]), 0⟩, ⟨8, (.agg [.i .i64, .i .i64]), 0⟩, ⟨11, (.agg [.i .i64, .i .i64]), 0⟩] [(0, 3), (1, 3), (2, 3), (0, 4), (1, 4), (2, 4), (0, 5), (1, 5), (2, 5), (0, 7), (1, 7), (2, 7), (3, 7), (4, 7), (5, 7), (6, 7), (0, 8), (1, 8), (2, 8), (3, 8), (4, 8), (5, 8), (6, 8), (0, 10), (1, 10), (2, 10), (3, 10), (4, 10), (5, 10), (6, 10), (7, 10), (8, 10), (9, 10), (0, 11), (1, 11), (2, 11), (3, 11), (4, 11), (5, 11), (6, 11), (7, 11), (8, 11), (9, 11), (0, 12), (1, 12), (2, 12), (3, 12), (4, 12), (5, 12), (6, 12), (7, 12), (8, 12), (9, 12), (0, 14), (1, 14), (2, 14), (3, 14), (4, 14), (5, 14), (6, 14), (7, 14), (8, 14), (9, 14), (10, 14), (11, 14), (12, 14), (13, 14), (0, 15), (1, 15), (2, 15), (3, 15), (4, 15), (5, 15), (6, 15), (7, 15), (8, 15), (9, 15), (10, 15), (11, 15), (12, 15), (13, 15), (14, 15)] [3, 13, 17, 18, 19, 20, 21, 22, 23, 24, 25, 26, 27, 28, 29, 30]) (.seq (.seq (.ops [O 31 (.fad 0 (.t 2)), oF 32 1 31, O 33 (.bin .lss (.t 32) (I 0))] [⟨1, (.agg [.i .i64, .i .i64]), 0⟩] [] [2, 31, 32]) (.cond (.t 33) (.seq (oQ [oT 34 2 6, oT 35 2 5, O 36 (.call (.f n_r01_less) [(.t 34), (.t 35)]), M 4 36] [5, 6, 33, 34, 35, 36]) .ret) .skip)) (.seq (oQ [oT 37 2 5, oT 38 2 6, O 39 (.call (.f n_r01_less) [(.t 37), (.t 38)]), M 4 39] [5, 6, 33, 37, 38, 39]) .ret)))))⟩
def t_r02_Point : TFn := ⟨2, [.tmp 4], (.seq (oQ [O 3 (.boxL (.t 1)), O 4 (.mv (.c (.bool false)))] [1, 4]) (.seq (.ops [oT 5 2 3, O 6 (.call (.f n_r01_Check) [(.t 5)]), O 7 (.bin .eql (.t 6) (I 0)), M 8 7, ⟨some 9, (.fad 0 (.t 3)), some (8, true)⟩, ⟨some 10, (.load false 1 (.t 9)), some (8, true)⟩, ⟨some 11, (.bin .geq (.t 10) (I 0)), some (8, true)⟩, O 12 (.pick (.t 8) (.t 11) (.c (.bool false))), M 13 12, ⟨some 14, (.mv (.t 0)), some (13, true)⟩, ⟨some 15, (.call (.f n_r01_Of) [(.t 14)]), some (13, true)⟩, ⟨some 16, (.load true 2 (.t 3)), some (13, true)⟩, ⟨some 17, (.call (.f n_r01_Less) [(.t 15), (.t 16)]), some (13, true)⟩, ⟨some 18, (.un .not (.t 17)), some (13, true)⟩, O 19 (.pick (.t 13) (.t 18) (.c (.bool false))), M 4 19] [⟨5, (.agg [.i .i64, .i .i64]), 0⟩] [(9, 11), (10, 11)] [0, 3, 5, 6, 7, 8, 9, 10, 11, 12, 13, 14, 15, 16, 17, 18, 19]) .ret))⟩
def t_r05_right : TFn := ⟨2, [.tmp 4], (.seq (oQ [O 3 (.boxL (.t 1)), O 4 (.mv (.c (.bool false)))] [1, 4]) (.seq (.seq (.ops [O 5 (.fad 2 (.t 3)), oT 6 2 5, O 7 (.fad 4 (.t 3)), oT 8 2 7, O 9 (.call (.f n_r01_Both) [(.t 6), (.t 8)]), O 10 (.bin .neq (.t 9) (I 0)), M 11 10, ⟨some 12, (.fad 6 (.t 3)), some (11, false)⟩, ⟨some 13, (.load true 2 (.t 12)), some (11, false)⟩, ⟨some 14, (.call (.f n_r01_Check) [(.t 13)]), some (11, false)⟩, ⟨some 15, (.bin .neq (.t 14) (I 0)), some (11, false)⟩, O 16 (.pick (.t 11) (.c (.bool true)) (.t 15)), M 17 16, ⟨some 18, (.mv (.t 0)), some (17, false)⟩, ⟨some 19, (.fad 2 (.t 3)), some (17, false)⟩, ⟨some 20, (.load true 2 (.t 19)), some (17, false)⟩, ⟨some 21, (.call (.f n_r02_Point) [(.t 18), (.t 20)]), some (17, false)⟩, ⟨some 22, (.un .not (.t 21)), some (17, false)⟩, O 23 (.pick (.t 17) (.c (.bool true)) (.t 22))] [⟨1, (.agg [.i .i64, .i .u8, .i .i64, .i .i64, .i .i64, .i .i64, .i .i64, .i .i64]), 0⟩, ⟨3, (.agg [.i .i64, .i .u8, .i .i64, .i .i64, .i .i64, .i .i64, .i .i64, .i .i64]), 0⟩, ⟨8, (.agg [.i .i64, .i .u8, .i .i64, .i .i64, .i .i64, .i .i64, .i .i64, .i .i64]), 0⟩, ⟨15, (.agg [.i .i64, .i .u8, .i .i64, .i .i64, .i .i64, .i .i64, .i .i64, .i .i64]), 0⟩] [] [5, 6, 7, 8, 9, 10, 11, 12, 13, 14, 15, 16, 17, 18, 19, 20, 21, 22]) (.cond (.t 23) (.seq (oQ [O 4 (.mv (.c (.bool false)))] [0, 3, 23]) .ret) .skip)) (.seq (.seq (.ops [O 24 (.fad 1 (.t 3)), oF 25 1 24] [⟨1, (.agg [.i .i64, .i .u8, .i .i64, .i .i64, .i .i64, .i .i64, .i .i64, .i .i64]), 0⟩] [] [23, 24]) (.block 0 (.seq (oQ [O 27 (.bin .eql (.t 25) (.c (.int .u8 (1)))), M 26 27] [27]) (.cond (.t 26) (.seq (.ops [M 28 0, O 29 (.fad 4 (.t 3)), oT 30 2 29, O 31 (.call (.f n_r02_Point) [(.t 28), (.t 30)]), M 32 31, ⟨some 33, (.fad 4 (.t 3)), some (32, true)⟩, ⟨some 34, (.load true 2 (.t 33)), some (32, true)⟩, ⟨some 35, (.fad 2 (.t 3)), some (32, true)⟩, ⟨some 36, (.load true 2 (.t 35)), some (32, true)⟩, ⟨some 37, (.call (.f n_r01_Less) [(.t 34), (.t 36)]), some (32, true)⟩, ⟨some 38, (.un .not (.t 37)), some (32, true)⟩, O 39 (.pick (.t 32) (.t 38) (.c (.bool false))), M 40 39, ⟨some 41, (.fad 6 (.t 3)), some (40, true)⟩, ⟨some 42, (.fad 0 (.t 41)), some (40, true)⟩, ⟨some 43, (.load false 1 (.t 42)), some (40, true)⟩, ⟨some 44, (.bin .geq (.t 43) (I 0)), some (40, true)⟩, O 45 (.pick (.t 40) (.t 44) (.c (.bool false))), M 4 45] [⟨2, (.agg [.i .i64, .i .u8, .i .i64, .i .i64, .i .i64, .i .i64, .i .i64, .i .i64]), 0⟩, ⟨6, (.agg [.i .i64, .i .u8, .i .i64, .i .i64, .i .i64, .i .i64, .i .i64, .i .i64]), 0⟩, ⟨8, (.agg [.i .i64, .i .u8, .i .i64, .i .i64, .i .i64, .i .i64, .i .i64, .i .i64]), 0⟩, ⟨15, (.agg [.i .i64, .i .u8, .i .i64, .i .i64, .i .i64, .i .i64, .i .i64, .i .i64]), 0⟩] [] [0, 3, 25, 26, 28, 29, 30, 31, 32, 33, 34, 35, 36, 37, 38, 39, 40, 41, 42, 43, 44, 45]) .ret) (.seq (oQ [O 47 (.bin .eql (.t 25) (.c (.int .u8 (2)))), M 46 47] [25, 26, 47]) (.cond (.t 46) (.seq (.ops [M 48 0, O 49 (.fad 6 (.t 3)), oT 50 2 49, O 51 (.call (.f n_r02_Point) [(.t 48), (.t 50)]), M 52 51, ⟨some 53, (.fad 6 (.t 3)), some (52, true)⟩, ⟨some 54, (.load true 2 (.t 53)), some (52, true)⟩, ⟨some 55, (.fad 2 (.t 3)), some (52, true)⟩, ⟨some 56, (.load true 2 (.t 55)), some (52, true)⟩, ⟨some 57, (.call (.f n_r01_Less) [(.t 54), (.t 56)]), some (52, true)⟩, ⟨some 58, (.un .not (.t 57)), some (52, true)⟩, O 59 (.pick (.t 52) (.t 58) (.c (.bool false))), M 60 59, ⟨some 61, (.fad 4 (.t 3)), some (60, true)⟩, ⟨some 62, (.fad 0 (.t 61)), some (60, true)⟩, ⟨some 63, (.load false 1 (.t 62)), some (60, true)⟩, ⟨some 64, (.bin .geq (.t 63) (I 0)), some (60, true)⟩, O 65 (.pick (.t 60) (.t 64) (.c (.bool false))), M 4 65] [⟨2, (.agg [.i .i64, .i .u8, .i .i64, .i .i64, .i .i64, .i .i64, .i .i64, .i .i64]), 0⟩, ⟨6, (.agg [.i .i64, .i .u8, .i .i64, .i .i64, .i .i64, .i .i64, .i .i64, .i .i64]), 0⟩, ⟨8, (.agg [.i .i64, .i .u8, .i .i64, .i .i64, .i .i64, .i .i64, .i .i64, .i .i64]), 0⟩, ⟨15, (.agg [.i .i64, .i .u8, .i .i64, .i .i64, .i .i64, .i .i64, .i .i64, .i .i64]), 0⟩] [] [0, 3, 46, 48, 49, 50, 51, 52, 53, 54, 55, 56, 57, 58, 59, 60, 61, 62, 63, 64, 65]) .ret) .skip)))))) (.seq (oQ [O 4 (.mv (.c (.bool false)))] [0, 3, 46]) .ret))))⟩
def b_13207700 : TCode := (.seq (.seq (oQ [M 15 5, M 16 1, O 17 (.len (.t 16)), oX 18 .lss 15 17] [15, 16, 17]) (.cond (.t 18) .skip (.exit 0))) (.seq (.block 1 (.seq (.ops [M 21 0, M 22 1, M 23 5, O 24 (.iad 8 (.t 22) (.t 23)), oT 25 8 24, O 26 (.call (.f n_r05_right) [(.t 21), (.t 25)]), O 27 (.un .not (.t 26))] [⟨3, (.agg [.i .i64, .i .u8, .i .i64, .i .i64, .i .i64, .i .i64, .i .i64, .i .i64]), 0⟩, ⟨4, (.agg [.i .i64, .i .u8, .i .i64, .i .i64, .i .i64, .i .i64, .i .i64, .i .i64]), 0⟩] [] [18, 21, 22, 23, 24, 25, 26]) (.cond (.t 27) (.seq (oQ [O 4 (.mv (I 8))] [0, 1, 5, 27]) .ret) .skip))) (oQ [M 19 5, O 20 (.bin .add (.t 19) (I 1)), M 5 20] [19, 20, 27])))
def t_r05_Check : TFn := ⟨2, [.tmp 4], (.seq (oQ [O 4 (.mv (I 0))] [4]) (.seq (.seq (oQ [M 6 0, O 7 (.bin .lss (.t 6) (I 1)), M 8 7, ⟨some 9, (.mv (.t 0)), some (8, false)⟩, ⟨some 10, (.bin .gtr (.t 9) (I 1000)), some (8, false)⟩, O 11 (.pick (.t 8) (.c (.bool true)) (.t 10))] [6, 7, 8, 9, 10]) (.cond (.t 11) (.seq (oQ [O 4 (.mv (I 2))] [0, 1, 11]) .ret) .skip)) (.seq (.seq (oQ [M 12 1, O 13 (.len (.t 12)), O 14 (.bin .gtr (.t 13) (I 40))] [11, 12, 13]) (.cond (.t 14) (.seq (oQ [O 4 (.mv (I 4))] [0, 1, 14]) .ret) .skip)) (.seq (.seq (oQ [O 5 (.mv (I 0))] [14]) (.block 0 (.loop 13207700 b_13207700))) (.seq (oQ [O 4 (.mv (I 0))] [0, 1, 5, 18]) .ret)))))⟩
def t_l05_valid : TFn := ⟨2, [.tmp 4], (.seq (oQ [O 4 (.mv (.c (.bool false)))] [4]) (.seq (oQ [M 5 1, O 6 (.call (.f n_r05_Great) [(.t 5)]), O 7 (.un .not (.t 6)), M 8 7, ⟨some 9, (.mv (.t 0)), some (8, true)⟩, ⟨some 10, (.mv (.t 1)), some (8, true)⟩, ⟨some 11, (.call (.f n_r05_Check) [(.t 9), (.t 10)]), some (8, true)⟩, ⟨some 12, (.bin .eql (.t 11) (I 0)), some (8, true)⟩, O 13 (.pick (.t 8) (.t 12) (.c (.bool false))), M 4 13] [0, 1, 5, 6, 7, 8, 9, 10, 11, 12, 13]) .ret))⟩
def t_l05_of : TFn := ⟨1, [.cell 2 true 2], (.seq (oQ [O 2 (.allocL (.agg [(.int .i64 (0)), (.int .i64 (0))]))] []) (.seq (oQ [M 3 0, O 4 (.build [(.int .i64 (0)), (.int .i64 (0))] [(0, 1, (.t 3)), (1, 1, (I 1))]), ⟨none, (.store 2 (.t 2) (.t 4)), none⟩] [0, 3, 4]) .ret))⟩
def t_l05_value : TFn := ⟨3, [.cell 6 true 8], (.seq (oQ [O 6 (.allocL (.agg [(.int .i64 (0)), (.int .u8 (0)), (.int .i64 (0)), (.int .i64 (0)), (.int .i64 (0)), (.int .i64 (0)), (.int .i64 (0)), (.int .i64 (0))]))] []) (.seq (oQ [M 7 0, O 8 (.call (.f n_l05_of) [(.t 7)]), M 9 1, O 10 (.call (.f n_l05_of) [(.t 9)]), M 11 2, O 12 (.call (.f n_l05_of) [(.t 11)]), O 13 (.build [(.int .i64 (0)), (.int .u8 (0)), (.int .i64 (0)), (.int .i64 (0)), (.int .i64 (0)), (.int .i64 (0)), (.int .i64 (0)), (.int .i64 (0))] [(1, 1, (.c (.int .u8 (1)))), (2, 2, (.t 8)), (4, 2, (.t 10)), (6, 2, (.t 12))]), ⟨none, (.store 8 (.t 6) (.t 13)), none⟩] [0, 1, 2, 7, 8, 9, 10, 11, 12, 13]) .ret))⟩
def t_l05_mark : TFn := ⟨3, [.cell 6 true 8], (.seq (oQ [O 6 (.allocL (.agg [(.int .i64 (0)), (.int .u8 (0)), (.int .i64 (0)), (.int .i64 (0)), (.int .i64 (0)), (.int .i64 (0)), (.int .i64 (0)), (.int .i64 (0))]))] []) (.seq (oQ [M 7 0, O 8 (.call (.f n_l05_of) [(.t 7)]), M 9 1, O 10 (.call (.f n_l05_of) [(.t 9)]), M 11 2, O 12 (.call (.f n_l05_of) [(.t 11)]), O 13 (.build [(.int .i64 (0)), (.int .u8 (0)), (.int .i64 (0)), (.int .i64 (0)), (.int .i64 (0)), (.int .i64 (0)), (.int .i64 (0)), (.int .i64 (0))] [(1, 1, (.c (.int .u8 (2)))), (2, 2, (.t 8)), (4, 2, (.t 10)), (6, 2, (.t 12))]), ⟨none, (.store 8 (.t 6) (.t 13)), none⟩] [0, 1, 2, 7, 8, 9, 10, 11, 12, 13]) .ret))⟩
def t_ratio_size : TFn := ⟨1, [.tmp 2], (.seq (oQ [O 2 (.mv (.c (.int .u64 (0))))] [2]) (.seq (.seq (oQ [M 3 0, O 4 (.bin .lss (.t 3) (I 0))] [3]) (.cond (.t 4) (.seq (oQ [M 5 0, O 6 (.conv .u64 (.t 5)), O 7 (.un .neg (.t 6)), M 2 7] [0, 4, 5, 6, 7]) .ret) .skip)) (.seq (oQ [M 8 0, O 9 (.conv .u64 (.t 8)), M 2 9] [0, 4, 8, 9]) .ret)))⟩
def b_32725300 : TCode := (.seq (.seq (oQ [M 5 1, O 6 (.bin .gtr (.t 5) (.c (.int .u64 (0))))] [5]) (.cond (.t 6) .skip (.exit 0))) (.block 1 (.ops [M 7 1, M 8 0, M 9 1, oX 10 .rem 8 9, M 0 7, M 1 10] [] [(0, 1), (0, 2), (1, 2), (0, 3), (2, 4), (3, 4)] [6, 7, 8, 9, 10])))
def t_ratio_gcd : TFn := ⟨2, [.tmp 4], (.seq (oQ [O 4 (.mv (.c (.int .u64 (0))))] [4]) (.seq (.block 0 (.loop 32725300 b_32725300)) (.seq (oQ [M 11 0, M 4 11] [0, 1, 6, 11]) .ret)))⟩
def t_ratio_Check : TFn := ⟨1, [.tmp 2], (.seq (oQ [O 1 (.boxL (.t 0)), O 2 (.mv (I 0))] [0, 2]) (.seq (.seq (.ops [O 3 (.fad 1 (.t 1)), oF 4 1 3, O 5 (.bin .lss (.t 4) (I 1)), M 6 5, ⟨some 7, (.fad 0 (.t 1)), some (6, false)⟩, ⟨some 8, (.load false 1 (.t 7)), some (6, false)⟩, ⟨some 9, (.call (.f n_ratio_size) [(.t 8)]), some (6, false)⟩, ⟨some 10, (.fad 1 (.t 1)), some (6, false)⟩, ⟨some 11, (.load false 1 (.t 10)), some (6, false)⟩, ⟨some 12, (.conv .u64 (.t 11)), some (6, false)⟩, ⟨some 13, (.minmax true [(.t 9), (.t 12)]), some (6, false)⟩, ⟨some 14, (.bin .gtr (.t 13) (.c (.int .u64 (1000000000000000000)))), some (6, false)⟩, O 15 (.pick (.t 6) (.c (.bool true)) (.t 14)), M 16 15, ⟨some 17, (.fad 0 (.t 1)), some (16, false)⟩, ⟨some 18, (.load false 1 (.t 17)), some (16, false)⟩, ⟨some 19, (.call (.f n_ratio_size) [(.t 18)]), some (16, false)⟩, ⟨some 20, (.fad 1 (.t 1)), some (16, false)⟩, ⟨some 21, (.load false 1 (.t 20)), some (16, false)⟩, ⟨some 22, (.conv .u64 (.t 21)), some (16, false)⟩, ⟨some 23, (.call (.f n_ratio_gcd) [(.t 19), (.t 22)]), some (16, false)⟩, ⟨some 24, (.bin .gtr (.t 23) (.c (.int .u64 (1)))), some (16, false)⟩, O 25 (.pick (.t 16) (.c (.bool true)) (.t 24))] [⟨1, (.agg [.i .i64, .i .i64]), 0⟩, ⟨5, (.agg [.i .i64, .i .i64]), 0⟩, ⟨8, (.agg [.i .i64, .i .i64]), 0⟩, ⟨15, (.agg [.i .i64, .i .i64]), 0⟩, ⟨18, (.agg [.i .i64, .i .i64]), 0⟩] [(4, 7), (5, 7), (6, 7), (4, 8), (5, 8), (6, 8), (4, 9), (5, 9), (6, 9), (14, 17), (15, 17), (16, 17), (14, 18), (15, 18), (16, 18), (14, 19), (15, 19), (16, 19)] [1, 3, 4, 5, 6, 7, 8, 9, 10, 11, 12, 13, 14, 15, 16, 17, 18, 19, 20, 21, 22, 23, 24]) (.cond (.t 25) (.seq (oQ [O 2 (.mv (I 8))] [25]) .ret) .skip)) (.seq (oQ [O 2 (.mv (I 0))] [25]) .ret)))⟩
def b_38508400 : TCode := (.seq (oQ [oX 9 .lss 8 7] []) (.seq (.cond (.t 9) .skip (.exit 0)) (.seq (.block 1 (.seq (.ops [O 10 (.iad 1 (.t 6) (.t 8)), oF 11 1 10, M 5 11] [⟨0, (.one (.i .i64)), 0⟩, ⟨1, (.one (.i .i64)), 0⟩] [] [9, 10, 11]) (.seq (oQ [M 12 5, M 13 3, oX 14 .neq 12 13] [12, 13]) (.cond (.t 14) (.seq (oQ [M 15 5, M 2 15] [3, 5, 6, 7, 8, 14, 15]) .ret) .skip)))) (oQ [O 16 (.bin .add (.t 8) (I 1)), M 8 16] [5, 14, 16]))))
def t_cmp_Or_api_Errno : TFn := ⟨1, [.tmp 2], (.seq (oQ [O 2 (.mv (I 0))] [2]) (.seq (oQ [O 3 (.mv (I 0))] []) (.seq (.seq (oQ [M 6 0, O 7 (.len (.t 6)), O 8 (.mv (I 0))] [0]) (.block 0 (.loop 38508400 b_38508400))) (.seq (oQ [M 17 3, M 2 17] [3, 6, 7, 8, 9, 17]) .ret))))⟩
def t_ratio_check : TFn := ⟨2, [.tmp 4], (.seq (oQ [O 2 (.boxL (.t 0)), O 3 (.boxL (.t 1)), O 4 (.mv (I 0))] [0, 1, 4]) (.seq (.ops [oT 5 2 2, O 6 (.call (.f n_ratio_Check) [(.t 5)]), oT 7 2 3, O 8 (.call (.f n_ratio_Check) [(.t 7)]), O 9 (.buildD 1 (.int .i64 (0)) 2 [(0, (.t 6)), (1, (.t 8))]), O 10 (.call (.f n_cmp_Or_api_Errno) [(.t 9)]), M 4 10] [] [(0, 2), (1, 2)] [2, 3, 5, 6, 7, 8, 9, 10]) .ret))⟩
def t_cmp_isNaN_int64 : TFn := ⟨1, [.tmp 2], (.seq (oQ [O 2 (.mv (.c (.bool false)))] [2]) (.seq (oQ [M 3 0, M 4 0, oX 5 .neq 3 4, M 2 5] [0, 3, 4, 5]) .ret))⟩
def t_cmp_Compare_int64 : TFn := ⟨2, [.tmp 4], (.seq (oQ [O 4 (.mv (I 0))] [4]) (.seq (oQ [M 7 0, O 8 (.call (.f n_cmp_isNaN_int64) [(.t 7)]), M 5 8] [7, 8]) (.seq (oQ [M 9 1, O 10 (.call (.f n_cmp_isNaN_int64) [(.t 9)]), M 6 10] [9, 10]) (.seq (.seq (oQ [M 11 5] [5]) (.cond (.t 11) (.seq (.seq (oQ [M 12 6] [0, 1, 6, 11]) (.cond (.t 12) (.seq (oQ [O 4 (.mv (I 0))] [12]) .ret) .skip)) (.seq (oQ [O 4 (.mv (I (-1)))] [12]) .ret)) .skip)) (.seq (.seq (oQ [M 13 6] [6, 11]) (.cond (.t 13) (.seq (oQ [O 4 (.mv (I 1))] [0, 1, 13]) .ret) .skip)) (.seq (.seq (oQ [M 14 0, M 15 1, oX 16 .lss 14 15] [13, 14, 15]) (.cond (.t 16) (.seq (oQ [O 4 (.mv (I (-1)))] [0, 1, 16]) .ret) .skip)) (.seq (.seq (oQ [M 17 0, M 18 1, oX 19 .gtr 17 18] [0, 1, 16, 17, 18]) (.cond (.t 19) (.seq (oQ [O 4 (.mv (I 1))] [19]) .ret) .skip)) (.seq (oQ [O 4 (.mv (I 0))] [19]) .ret))))))))⟩
def t_m_Mul64 : TFn := ⟨2, [.tmp 4, .tmp 5], (.seq (oQ [O 4 (.mv (.c (.int .u64 (0)))), O 5 (.mv (.c (.int .u64 (0))))] [4, 5]) (.seq (oQ [M 14 0, O 15 (.bin .and (.t 14) (.c (.int .u64 (4294967295)))), M 6 15] [14, 15]) (.seq (oQ [M 16 0, O 17 (.bin .shr (.t 16) (.c (.int .u64 (32)))), M 7 17] [16, 17]) (.seq (oQ [M 18 1, O 19 (.bin .and (.t 18) (.c (.int .u64 (4294967295)))), M 8 19] [18, 19]) (.seq (oQ [M 20 1, O 21 (.bin .shr (.t 20) (.c (.int .u64 (32)))), M 9 21] [20, 21]) (.seq (oQ [M 22 6, M 23 8, oX 24 .mul 22 23, M 10 24] [22, 23, 24]) (.seq (oQ [M 25 7, M 26 8, oX 27 .mul 25 26, M 28 10, O 29 (.bin .shr (.t 28) (.c (.int .u64 (32)))), oX 30 .add 27 29, M 11 30] [8, 10, 25, 26, 27, 28, 29, 30]) (.seq (oQ [M 31 11, O 32 (.bin .and (.t 31) (.c (.int .u64 (4294967295)))), M 12 32] [31, 32]) (.seq (oQ [M 33 11, O 34 (.bin .shr (.t 33) (.c (.int .u64 (32)))), M 13 34] [11, 33, 34]) (.seq (oQ [M 35 12, M 36 6, M 37 9, oX 38 .mul 36 37, oX 39 .add 35 38, M 12 39] [6, 35, 36, 37, 38, 39]) (.seq (oQ [M 40 7, M 41 9, oX 42 .mul 40 41, M 43 13, oX 44 .add 42 43, M 45 12, O 46 (.bin .shr (.t 45) (.c (.int .u64 (32)))), oX 47 .add 44 46, M 4 47] [7, 9, 12, 13, 40, 41, 42, 43, 44, 45, 46, 47]) (.seq (oQ [M 48 0, M 49 1, oX 50 .mul 48 49, M 5 50] [0, 1, 48, 49, 50]) .ret))))))))))))⟩
def t_cmp_isNaN_uint64 : TFn := ⟨1, [.tmp 2], (.seq (oQ [O 2 (.mv (.c (.bool false)))] [2]) (.seq (oQ [M 3 0, M 4 0, oX 5 .neq 3 4, M 2 5] [0, 3, 4, 5]) .ret))⟩
def t_cmp_Compare_uint64 : TFn := ⟨2, [.tmp 4], (.seq (oQ [O 4 (.mv (I 0))] [4]) (.seq (oQ [M 7 0, O 8 (.call (.f n_cmp_isNaN_uint64) [(.t 7)]), M 5 8] [7, 8]) (.seq (oQ [M 9 1, O 10 (.call (.f n_cmp_isNaN_uint64) [(.t 9)]), M 6 10] [9, 10]) (.seq (.seq (oQ [M 11 5] [5]) (.cond (.t 11) (.seq (.seq (oQ [M 12 6] [0, 1, 6, 11]) (.cond (.t 12) (.seq (oQ [O 4 (.mv (I 0))] [12]) .ret) .skip)) (.seq (oQ [O 4 (.mv (I (-1)))] [12]) .ret)) .skip)) (.seq (.seq (oQ [M 13 6] [6, 11]) (.cond (.t 13) (.seq (oQ [O 4 (.mv (I 1))] [0, 1, 13]) .ret) .skip)) (.seq (.seq (oQ [M 14 0, M 15 1, oX 16 .lss 14 15] [13, 14, 15]) (.cond (.t 16) (.seq (oQ [O 4 (.mv (I (-1)))] [0, 1, 16]) .ret) .skip)) (.seq (.seq (oQ [M 17 0, M 18 1, oX 19 .gtr 17 18] [0, 1, 16, 17, 18]) (.cond (.t 19) (.seq (oQ [O 4 (.mv (I 1))] [19]) .ret) .skip)) (.seq (oQ [O 4 (.mv (I 0))] [19]) .ret))))))))⟩
def b_53260600 : TCode := (.seq (oQ [oX 9 .lss 8 7] []) (.seq (.cond (.t 9) .skip (.exit 0)) (.seq (.block 1 (.seq (.ops [O 10 (.iad 1 (.t 6) (.t 8)), oF 11 1 10, M 5 11] [⟨0, (.one (.i .i64)), 0⟩, ⟨1, (.one (.i .i64)), 0⟩] [] [9, 10, 11]) (.seq (oQ [M 12 5, M 13 3, oX 14 .neq 12 13] [12, 13]) (.cond (.t 14) (.seq (oQ [M 15 5, M 2 15] [3, 5, 6, 7, 8, 14, 15]) .ret) .skip)))) (oQ [O 16 (.bin .add (.t 8) (I 1)), M 8 16] [5, 14, 16]))))
def t_cmp_Or_int : TFn := ⟨1, [.tmp 2], (.seq (oQ [O 2 (.mv (I 0))] [2]) (.seq (oQ [O 3 (.mv (I 0))] []) (.seq (.seq (oQ [M 6 0, O 7 (.len (.t 6)), O 8 (.mv (I 0))] [0]) (.block 0 (.loop 53260600 b_53260600))) (.seq (oQ [M 17 3, M 2 17] [3, 6, 7, 8, 9, 17]) .ret))))⟩
def t_ratio_Cmp : TFn := ⟨2, [.tmp 4, .tmp 5], (.seq (oQ [O 2 (.boxL (.t 0)), O 3 (.boxL (.t 1)), O 4 (.mv (I 0)), O 5 (.mv (I 0))] [0, 1, 4, 5]) (.seq (.seq (oQ [oT 12 2 2, oT 13 2 3, O 14 (.call (.f n_ratio_check) [(.t 12), (.t 13)]), M 6 14] [12, 13, 14]) (.seq (oQ [M 15 6, O 16 (.bin .neq (.t 15) (I 0))] [15]) (.cond (.t 16) (.seq (oQ [M 17 6, O 4 (.mv (I 0)), M 5 17] [2, 3, 6, 16, 17]) .ret) .skip))) (.seq (.seq (.ops [O 18 (.fad 0 (.t 2)), oF 19 1 18, O 20 (.bin .lss (.t 19) (I 0)), O 21 (.fad 0 (.t 3)), oF 22 1 21, O 23 (.bin .lss (.t 22) (I 0)), O 24 (.eqB true (.t 20) (.t 23))] [⟨1, (.agg [.i .i64, .i .i64]), 0⟩, ⟨4, (.agg [.i .i64, .i .i64]), 0⟩] [] [6, 16, 18, 19, 20, 21, 22, 23]) (.cond (.t 24) (.seq (.ops [O 25 (.fad 0 (.t 2)), oF 26 1 25, O 27 (.fad 0 (.t 3)), oF 28 1 27, O 29 (.call (.f n_cmp_Compare_int64) [(.t 26), (.t 28)]), M 4 29, O 5 (.mv (I 0))] [⟨1, (.agg [.i .i64, .i .i64]), 0⟩, ⟨3, (.agg [.i .i64, .i .i64]), 0⟩] [] [2, 3, 24, 25, 26, 27, 28, 29]) .ret) .skip)) (.seq (.ops [O 31 (.fad 0 (.t 2)), oF 32 1 31, O 33 (.call (.f n_ratio_size) [(.t 32)]), O 34 (.fad 1 (.t 3)), oF 35 1 34, O 36 (.conv .u64 (.t 35)), O 37 (.call (.f n_m_Mul64) [(.t 33), (.t 36)]), M 30 37, O 38 (.ext (.t 30) 0), O 39 (.ext (.t 30) 1), M 7 38, M 8 39] [⟨1, (.agg [.i .i64, .i .i64]), 0⟩, ⟨4, (.agg [.i .i64, .i .i64]), 0⟩] [(0, 3), (1, 3), (2, 3), (0, 4), (1, 4), (2, 4), (0, 5), (1, 5), (2, 5), (8, 9), (9, 10)] [24, 30, 31, 32, 33, 34, 35, 36, 37, 38, 39]) (.seq (.ops [O 41 (.fad 0 (.t 3)), oF 42 1 41, O 43 (.call (.f n_ratio_size) [(.t 42)]), O 44 (.fad 1 (.t 2)), oF 45 1 44, O 46 (.conv .u64 (.t 45)), O 47 (.call (.f n_m_Mul64) [(.t 43), (.t 46)]), M 40 47, O 48 (.ext (.t 40) 0), O 49 (.ext (.t 40) 1), M 9 48, M 10 49] [⟨1, (.agg [.i .i64, .i .i64]), 0⟩, ⟨4, (.agg [.i .i64, .i .i64]), 0⟩] [(0, 3), (1, 3), (2, 3), (0, 4), (1, 4), (2, 4), (0, 5), (1, 5), (2, 5), (8, 9), (9, 10)] [3, 40, 41, 42, 43, 44, 45, 46, 47, 48, 49]) (.seq (oQ [M 50 7, M 51 9, O 52 (.call (.f n_cmp_Compare_uint64) [(.t 50), (.t 51)]), M 53 8, M 54 10, O 55 (.call (.f n_cmp_Compare_uint64) [(.t 53), (.t 54)]), O 56 (.buildD 1 (.int .i64 (0)) 2 [(0, (.t 52)), (1, (.t 55))]), O 57 (.call (.f n_cmp_Or_int) [(.t 56)]), M 11 57] [7, 8, 9, 10, 50, 51, 52, 53, 54, 55, 56, 57]) (.seq (.seq (.ops [O 58 (.fad 0 (.t 2)), oF 59 1 58, O 60 (.bin .lss (.t 59) (I 0))] [⟨1, (.agg [.i .i64, .i .i64]), 0⟩] [] [2, 58, 59]) (.cond (.t 60) (oQ [M 61 11, O 62 (.un .neg (.t 61)), M 11 62] [60, 61, 62]) .skip)) (.seq (oQ [M 63 11, M 4 63, O 5 (.mv (I 0))] [11, 60, 63]) .ret))))))))⟩
def t_audit_order : TFn := ⟨2, [.tmp 4], (.seq (oQ [O 2 (.boxL (.t 0)), O 3 (.boxL (.t 1)), O 4 (.mv (I 0))] [0, 1, 4]) (.seq (oQ [oT 8 2 2, oT 9 2 3, O 10 (.call (.f n_ratio_Cmp) [(.t 8), (.t 9)]), M 7 10, O 11 (.ext (.t 7) 0), O 12 (.ext (.t 7) 1), M 5 11, M 6 12] [2, 3, 6, 7, 8, 9, 10, 11, 12]) (.seq (oQ [M 13 5, M 4 13] [5, 13]) .ret)))⟩
def t_audit_whole : TFn := ⟨1, [.cell 2 true 2], (.seq (oQ [O 2 (.allocL (.agg [(.int .i64 (0)), (.int .i64 (0))]))] []) (.seq (oQ [M 3 0, O 4 (.build [(.int .i64 (0)), (.int .i64 (0))] [(0, 1, (.t 3)), (1, 1, (I 1))]), ⟨none, (.store 2 (.t 2) (.t 4)), none⟩] [0, 3, 4]) .ret))⟩
def b_42727200 : TCode := (.seq (oQ [oX 18 .lss 17 16] []) (.seq (.cond (.t 18) .skip (.exit 0)) (.seq (.block 1 (.seq (.ops [O 19 (.iad 2 (.t 15) (.t 17)), oT 20 2 19, O 7 (.allocL (.agg [(.int .i64 (0)), (.int .i64 (0))])), ⟨none, (.store 2 (.t 7) (.t 20)), none⟩] [⟨0, (.agg [.i .i64, .i .i64]), 0⟩, ⟨1, (.agg [.i .i64, .i .i64]), 0⟩] [] [18, 19, 20]) (.seq (.ops [oT 21 2 7, O 22 (.call (.f n_ratio_Check) [(.t 21)]), O 23 (.bin .neq (.t 22) (I 0)), M 24 23, ⟨some 25, (.fad 0 (.t 7)), some (24, false)⟩, ⟨some 26, (.load false 1 (.t 25)), some (24, false)⟩, ⟨some 27, (.bin .lss (.t 26) (I 0)), some (24, false)⟩, O 28 (.pick (.t 24) (.c (.bool true)) (.t 27))] [⟨5, (.agg [.i .i64, .i .i64]), 0⟩] [] [7, 21, 22, 23, 24, 25, 26, 27]) (.cond (.t 28) (.seq (oQ [O 29 (.build [(.int .i64 (0)), (.int .i64 (0)), (.int .i64 (0)), (.int .i64 (0)), (.int .i64 (0)), (.int .i64 (0)), (.bool false)] []), ⟨none, (.store 7 (.t 4) (.t 29)), none⟩, O 5 (.mv (.c (.bool false)))] [0, 3, 15, 16, 17, 28, 29]) .ret) .skip)))) (oQ [O 30 (.bin .add (.t 17) (I 1)), M 17 30] [28, 30]))))
def t_audit_claimed : TFn := ⟨2, [.cell 4 true 7, .tmp 5], (.seq (oQ [O 3 (.boxL (.t 1)), O 4 (.allocL (.agg [(.int .i64 (0)), (.int .i64 (0)), (.int .i64 (0)), (.int .i64 (0)), (.int .i64 (0)), (.int .i64 (0)), (.bool false)])), O 5 (.mv (.c (.bool false)))] [1, 5]) (.seq (.seq (.ops [O 9 (.fad 2 (.t 3)), oT 10 2 9, O 11 (.fad 4 (.t 3)), oT 12 2 11, O 13 (.fad 6 (.t 3)), oT 14 2 13, O 15 (.buildSl true 2 (.agg [(.int .i64 (0)), (.int .i64 (0))]) 3 [(0, (.t 10)), (1, (.t 12)), (2, (.t 14))]), O 16 (.len (.t 15)), O 17 (.mv (I 0))] [⟨1, (.agg [.i .i64, .i .u8, .i .i64, .i .i64, .i .i64, .i .i64, .i .i64, .i .i64]), 0⟩, ⟨3, (.agg [.i .i64, .i .u8, .i .i64, .i .i64, .i .i64, .i .i64, .i .i64, .i .i64]), 0⟩, ⟨5, (.agg [.i .i64, .i .u8, .i .i64, .i .i64, .i .i64, .i .i64, .i .i64, .i .i64]), 0⟩] [] [9, 10, 11, 12, 13, 14]) (.block 0 (.loop 42727200 b_42727200))) (.seq (.ops [O 31 (.fad 2 (.t 3)), oT 32 2 31, O 33 (.fad 4 (.t 3)), oT 34 2 33, O 35 (.fad 6 (.t 3)), oT 36 2 35, O 37 (.build [(.int .i64 (0)), (.int .i64 (0)), (.int .i64 (0)), (.int .i64 (0)), (.int .i64 (0)), (.int .i64 (0)), (.bool false)] [(0, 2, (.t 32)), (2, 2, (.t 34)), (4, 2, (.t 36))]), O 8 (.allocL (.agg [(.int .i64 (0)), (.int .i64 (0)), (.int .i64 (0)), (.int .i64 (0)), (.int .i64 (0)), (.int .i64 (0)), (.bool false)])), ⟨none, (.store 7 (.t 8) (.t 37)), none⟩] [⟨1, (.agg [.i .i64, .i .u8, .i .i64, .i .i64, .i .i64, .i .i64, .i .i64, .i .i64]), 0⟩, ⟨3, (.agg [.i .i64, .i .u8, .i .i64, .i .i64, .i .i64, .i .i64, .i .i64, .i .i64]), 0⟩, ⟨5, (.agg [.i .i64, .i .u8, .i .i64, .i .i64, .i .i64, .i .i64, .i .i64, .i .i64]), 0⟩] [] [15, 16, 17, 18, 31, 32, 33, 34, 35, 36, 37]) (.seq (.seq (.ops [O 38 (.fad 1 (.t 3)), oF 39 1 38] [⟨1, (.agg [.i .i64, .i .u8, .i .i64, .i .i64, .i .i64, .i .i64, .i .i64, .i .i64]), 0⟩] [] [38]) (.block 2 (.seq (oQ [O 42 (.bin .eql (.t 39) (.c (.int .u8 (1)))), M 41 42] [42]) (.cond (.t 41) .skip (.seq (oQ [O 44 (.bin .eql (.t 39) (.c (.int .u8 (2)))), M 43 44] [39, 41, 44]) (.cond (.t 43) (.ops [O 45 (.fad 6 (.t 3)), oT 46 2 45, O 47 (.fad 4 (.t 3)), oT 48 2 47, O 49 (.fad 2 (.t 8)), ⟨none, (.store 2 (.t 49) (.t 46)), none⟩, O 50 (.fad 4 (.t 8)), ⟨none, (.store 2 (.t 50) (.t 48)), none⟩, O 51 (.fad 6 (.t 8)), ⟨none, (.store 1 (.t 51) (.c (.bool true))), none⟩] [⟨1, (.agg [.i .i64, .i .u8, .i .i64, .i .i64, .i .i64, .i .i64, .i .i64, .i .i64]), 0⟩, ⟨3, (.agg [.i .i64, .i .u8, .i .i64, .i .i64, .i .i64, .i .i64, .i .i64, .i .i64]), 0⟩, ⟨5, (.agg [.i .i64, .i .i64, .i .i64, .i .i64, .i .i64, .i .i64, .b]), 0⟩, ⟨7, (.agg [.i .i64, .i .i64, .i .i64, .i .i64, .i .i64, .i .i64, .b]), 0⟩, ⟨9, (.agg [.i .i64, .i .i64, .i .i64, .i .i64, .i .i64, .i .i64, .b]), 0⟩] [(0, 2), (1, 2), (0, 3), (1, 3), (2, 4), (3, 4), (2, 5), (3, 5)] [3, 43, 45, 46, 47, 48, 49, 50, 51]) (.seq (oQ [O 40 (.build [(.int .i64 (0)), (.int .i64 (0)), (.int .i64 (0)), (.int .i64 (0)), (.int .i64 (0)), (.int .i64 (0)), (.bool false)] []), ⟨none, (.store 7 (.t 4) (.t 40)), none⟩, O 5 (.mv (.c (.bool false)))] [0, 3, 8, 40, 43]) .ret))))))) (.seq (.ops [oT 52 7 8, O 53 (.fad 0 (.t 8)), oT 54 2 53, O 55 (.fad 2 (.t 8)), oT 56 2 55, O 57 (.call (.f n_audit_order) [(.t 54), (.t 56)]), O 58 (.bin .leq (.t 57) (I 0)), M 59 58, ⟨some 60, (.fad 2 (.t 8)), some (59, true)⟩, ⟨some 61, (.load true 2 (.t 60)), some (59, true)⟩, ⟨some 62, (.mv (.t 0)), some (59, true)⟩, ⟨some 63, (.call (.f n_audit_whole) [(.t 62)]), some (59, true)⟩, ⟨some 64, (.call (.f n_audit_order) [(.t 61), (.t 63)]), some (59, true)⟩, ⟨some 65, (.bin .leq (.t 64) (I 0)), some (59, true)⟩, O 66 (.pick (.t 59) (.t 65) (.c (.bool false))), ⟨none, (.store 7 (.t 4) (.t 52)), none⟩, M 5 66] [⟨2, (.agg [.i .i64, .i .i64, .i .i64, .i .i64, .i .i64, .i .i64, .b]), 0⟩, ⟨4, (.agg [.i .i64, .i .i64, .i .i64, .i .i64, .i .i64, .i .i64, .b]), 0⟩, ⟨9, (.agg [.i .i64, .i .i64, .i .i64, .i .i64, .i .i64, .i .i64, .b]), 0⟩] [(0, 1), (0, 2), (0, 3), (1, 3), (2, 3), (0, 4), (1, 4), (2, 4), (0, 5), (0, 6), (0, 7), (0, 8), (0, 9), (0, 10), (8, 10), (9, 10), (0, 11), (8, 11), (9, 11), (0, 12), (0, 13), (0, 14), (13, 15), (14, 15)] [0, 3, 8, 39, 41, 52, 53, 54, 55, 56, 57, 58, 59, 60, 61, 62, 63, 64, 65, 66]) .ret)))))⟩
def b_52235000 : TCode := (.seq (oQ [oX 23 .lss 22 21] []) (.seq (.cond (.t 23) .skip (.exit 0)) (.seq (.block 1 (.seq (.ops [O 24 (.iad 8 (.t 20) (.t 22)), oT 25 8 24, O 8 (.allocL (.agg [(.int .i64 (0)), (.int .u8 (0)), (.int .i64 (0)), (.int .i64 (0)), (.int .i64 (0)), (.int .i64 (0)), (.int .i64 (0)), (.int .i64 (0))])), ⟨none, (.store 8 (.t 8) (.t 25)), none⟩] [⟨0, (.agg [.i .i64, .i .u8, .i .i64, .i .i64, .i .i64, .i .i64, .i .i64, .i .i64]), 0⟩, ⟨1, (.agg [.i .i64, .i .u8, .i .i64, .i .i64, .i .i64, .i .i64, .i .i64, .i .i64]), 0⟩] [] [23, 24, 25]) (.seq (oQ [M 27 0, oT 28 8 8, O 29 (.call (.f n_audit_claimed) [(.t 27), (.t 28)]), M 26 29, O 30 (.ext (.t 26) 0), O 31 (.ext (.t 26) 1), O 9 (.allocL (.agg [(.int .i64 (0)), (.int .i64 (0)), (.int .i64 (0)), (.int .i64 (0)), (.int .i64 (0)), (.int .i64 (0)), (.bool false)])), ⟨none, (.store 7 (.t 9) (.t 30)), none⟩, M 10 31] [8, 26, 27, 28, 29, 30, 31]) (.seq (.seq (oQ [M 32 10, O 33 (.un .not (.t 32))] [10, 32]) (.cond (.t 33) (.seq (oQ [O 4 (.mv (.c .nils)), O 5 (.mv (I 8))] [0, 6, 9, 20, 21, 22, 33]) .ret) .skip)) (oQ [M 34 6, oT 35 7 9, O 36 (.buildD 7 (.agg [(.int .i64 (0)), (.int .i64 (0)), (.int .i64 (0)), (.int .i64 (0)), (.int .i64 (0)), (.int .i64 (0)), (.bool false)]) 1 [(0, (.t 35))]), O 37 (.app true 7 56 (.t 34) (.t 36)), M 6 37] [9, 33, 34, 35, 36, 37]))))) (oQ [O 38 (.bin .add (.t 22) (I 1)), M 22 38] [38]))))
def t_audit_claims : TFn := ⟨2, [.tmp 4, .tmp 5], (.seq (oQ [O 4 (.mv (.c .nils)), O 5 (.mv (I 0))] [4, 5]) (.seq (.seq (oQ [M 11 0, O 12 (.bin .lss (.t 11) (I 1)), M 13 12, ⟨some 14, (.mv (.t 0)), some (13, false)⟩, ⟨some 15, (.bin .gtr (.t 14) (I 1000)), some (13, false)⟩, O 16 (.pick (.t 13) (.c (.bool true)) (.t 15))] [11, 12, 13, 14, 15]) (.cond (.t 16) (.seq (oQ [O 4 (.mv (.c .nils)), O 5 (.mv (I 2))] [0, 1, 16]) .ret) .skip)) (.seq (.seq (oQ [M 17 1, O 18 (.len (.t 17)), O 19 (.bin .gtr (.t 18) (I 40))] [16, 17, 18]) (.cond (.t 19) (.seq (oQ [O 4 (.mv (.c .nils)), O 5 (.mv (I 4))] [0, 1, 19]) .ret) .skip)) (.seq (oQ [O 6 (.mv (.c .nils))] [19]) (.seq (.seq (oQ [M 20 1, O 21 (.len (.t 20)), O 22 (.mv (I 0))] [1]) (.block 0 (.loop 52235000 b_52235000))) (.seq (oQ [M 39 6, M 4 39, O 5 (.mv (I 0))] [0, 6, 20, 21, 22, 23, 39]) .ret))))))⟩
def b_49126300 : TCode := (.seq (.seq (oQ [M 22 8, O 23 (.bin .gtr (.t 22) (I 0))] [22]) (.cond (.t 23) .skip (.exit 2))) (.block 3 (.ops [M 24 8, M 25 7, M 26 8, oX 27 .rem 25 26, M 7 24, M 8 27] [] [(0, 1), (0, 2), (1, 2), (0, 3), (2, 4), (3, 4)] [23, 24, 25, 26, 27])))
def b_49126301 : TCode := (.seq (oQ [oX 15 .lss 14 13] []) (.seq (.cond (.t 15) .skip (.exit 0)) (.seq (.block 1 (.seq (.ops [O 16 (.iad 7 (.t 12) (.t 14)), oT 17 7 16, O 6 (.allocL (.agg [(.int .i64 (0)), (.int .i64 (0)), (.int .i64 (0)), (.int .i64 (0)), (.int .i64 (0)), (.int .i64 (0)), (.bool false)])), ⟨none, (.store 7 (.t 6) (.t 17)), none⟩] [⟨0, (.agg [.i .i64, .i .i64, .i .i64, .i .i64, .i .i64, .i .i64, .b]), 0⟩, ⟨1, (.agg [.i .i64, .i .i64, .i .i64, .i .i64, .i .i64, .i .i64, .b]), 0⟩] [] [15, 16, 17]) (.seq (.ops [M 18 4, O 19 (.fad 4 (.t 6)), O 20 (.fad 1 (.t 19)), oF 21 1 20, M 7 18, M 8 21] [⟨3, (.agg [.i .i64, .i .i64, .i .i64, .i .i64, .i .i64, .i .i64, .b]), 0⟩] [(0, 1), (0, 2), (0, 3), (1, 4), (2, 4), (3, 4)] [18, 19, 20, 21]) (.seq (.block 2 (.loop 49126300 b_49126300)) (.seq (.ops [O 28 (.fad 4 (.t 6)), O 29 (.fad 1 (.t 28)), oF 30 1 29, M 31 7, oX 32 .quo 30 31, M 9 32] [⟨2, (.agg [.i .i64, .i .i64, .i .i64, .i .i64, .i .i64, .i .i64, .b]), 0⟩] [] [6, 7, 8, 23, 28, 29, 30, 31, 32]) (.seq (.seq (oQ [M 33 9, M 34 4, O 35 (.bin .quo (I 1000000000) (.t 34)), oX 36 .gtr 33 35] [33, 34, 35]) (.cond (.t 36) (.seq (oQ [O 2 (.mv (I 0)), O 3 (.mv (I 16))] [0, 4, 9, 12, 13, 14, 36]) .ret) .skip)) (oQ [M 37 4, M 38 9, oX 39 .mul 37 38, M 4 39] [9, 36, 37, 38, 39]))))))) (oQ [O 40 (.bin .add (.t 14) (I 1)), M 14 40] [40]))))
def b_49126302 : TCode := (.seq (oQ [oX 44 .lss 43 42] []) (.seq (.cond (.t 44) .skip (.exit 4)) (.seq (.block 5 (.seq (.ops [O 45 (.iad 7 (.t 41) (.t 43)), oT 46 7 45, O 11 (.allocL (.agg [(.int .i64 (0)), (.int .i64 (0)), (.int .i64 (0)), (.int .i64 (0)), (.int .i64 (0)), (.int .i64 (0)), (.bool false)])), ⟨none, (.store 7 (.t 11) (.t 46)), none⟩] [⟨0, (.agg [.i .i64, .i .i64, .i .i64, .i .i64, .i .i64, .i .i64, .b]), 0⟩, ⟨1, (.agg [.i .i64, .i .i64, .i .i64, .i .i64, .i .i64, .i .i64, .b]), 0⟩] [] [44, 45, 46]) (.seq (.ops [O 47 (.fad 4 (.t 11)), O 48 (.fad 0 (.t 47)), oF 49 1 48, M 50 4, O 51 (.fad 4 (.t 11)), O 52 (.fad 1 (.t 51)), oF 53 1 52, oX 54 .quo 50 53, O 55 (.bin .quo (I 1000000000000) (.t 54)), oX 56 .gtr 49 55] [⟨2, (.agg [.i .i64, .i .i64, .i .i64, .i .i64, .i .i64, .i .i64, .b]), 0⟩, ⟨6, (.agg [.i .i64, .i .i64, .i .i64, .i .i64, .i .i64, .i .i64, .b]), 0⟩] [(0, 3), (1, 3), (2, 3), (0, 4), (1, 4), (2, 4), (3, 4), (0, 5), (1, 5), (2, 5), (3, 5), (0, 6), (1, 6), (2, 6), (3, 6), (0, 7), (1, 7), (2, 7), (0, 8), (1, 8), (2, 8)] [11, 47, 48, 49, 50, 51, 52, 53, 54, 55]) (.cond (.t 56) (.seq (oQ [O 2 (.mv (I 0)), O 3 (.mv (I 16))] [4, 41, 42, 43, 56]) .ret) .skip)))) (oQ [O 57 (.bin .add (.t 43) (I 1)), M 43 57] [56, 57]))))
def t_audit_scale : TFn := ⟨1, [.tmp 2, .tmp 3], (.seq (oQ [O 2 (.mv (I 0)), O 3 (.mv (I 0))] [2, 3]) (.seq (oQ [O 4 (.mv (I 1))] []) (.seq (.seq (oQ [M 12 0, O 13 (.len (.t 12)), O 14 (.mv (I 0))] []) (.block 0 (.loop 49126301 b_49126301))) (.seq (.seq (oQ [M 41 0, O 42 (.len (.t 41)), O 43 (.mv (I 0))] [0, 12, 13, 14, 15]) (.block 4 (.loop 49126302 b_49126302))) (.seq (oQ [M 58 4, M 2 58, O 3 (.mv (I 0))] [4, 41, 42, 43, 44, 58]) .ret)))))⟩
def t_m_Len32 : TFn := ⟨1, [.tmp 2], (.seq (oQ [O 2 (.mv (I 0))] []) (.seq (.seq (oQ [M 3 0, O 4 (.bin .geq (.t 3) (.c (.int .u32 (65536))))] [3]) (.cond (.t 4) (.seq (oQ [M 5 0, O 6 (.bin .shr (.t 5) (.c (.int .u64 (16)))), M 0 6] [2, 4, 5, 6]) (oQ [O 2 (.mv (I 16))] [])) .skip)) (.seq (.seq (oQ [M 7 0, O 8 (.bin .geq (.t 7) (.c (.int .u32 (256))))] [4, 7]) (.cond (.t 8) (.seq (oQ [M 9 0, O 10 (.bin .shr (.t 9) (.c (.int .u64 (8)))), M 0 10] [8, 9, 10]) (oQ [M 11 2, O 12 (.bin .add (.t 11) (I 8)), M 2 12] [11, 12])) .skip)) (.seq (oQ [M 13 2, M 14 0, O 15 (.conv .u8 (.t 14)), O 16 (.idx false 256 1 (.c (.agg [(.int .u8 (0)), (.int .u8 (1)), (.int .u8 (2)), (.int .u8 (2)), (.int .u8 (3)), (.int .u8 (3)), (.int .u8 (3)), (.int .u8 (3)), (.int .u8 (4)), (.int .u8 (4)), (.int .u8 (4)), (.int .u8 (4)), (.int .u8 (4)), (.int .u8 (4)), (.int .u8 (4)), (.int .u8 (4)), (.int .u8 (5)), (.int .u8 (5)), (.int .u8 (5)), (.int .u8 (5)), (.int .u8 (5)), (.int .u8 (5)), (.int .u8 (5)), (.int .u8 (5)), (.int .u8 (5)), (.int .u8 (5)), (.int .u8 (5)), (.int .u8 (5)), (.int .u8 (5)), (.int .u8 (5)), (.int .u8 (5)), (.int .u8 (5)), (.int .u8 (6)), (.int .u8 (6)), (.int .u8 (6)), (.int .u8 (6)), (.int .u8 (6)), (.int .u8 (6)), (.int .u8 (6)), (.int .u8 (6)), (.int .u8 (6)), (.int .u8 (6)), (.int .u8 (6)), (.int .u8 (6)), (.int .u8 (6)), (.int .u8 (6)), (.int .u8 (6)), (.int .u8 (6)), (.int .u8 (6)), (.int .u8 (6)), (.int .u8 (6)), (.int .u8 (6)), (.int .u8 (6)), (.int .u8 (6)), (.int .u8 (6)), (.int .u8 (6)), (.int .u8 (6)), (.int .u8 (6)), (.int .u8 (6)), (.int .u8 (6)), (.int .u8 (6)), (.int .u8 (6)), (.int .u8 (6)), (.int .u8 (6)), (.int .u8 (7)), (.int .u8 (7)), (.int .u8 (7)), (.int .u8 (7)), (.int .u8 (7)), (.int .u8 (7)), (.int .u8 (7)), (.int .u8 (7)), (.int .u8 (7)), (.int .u8 (7)), (.int .u8 (7)), (.int .u8 (7)), (.int .u8 (7)), (.int .u8 (7)), (.int .u8 (7)), (.int .u8 (7)), (.int .u8 (7)), (.int .u8 (7)), (.int .u8 (7)), (.int .u8 (7)), (.int .u8 (7)), (.int .u8 (7)), (.int .u8 (7)), (.int .u8 (7)), (.int .u8 (7)), (.int .u8 (7)), (.int .u8 (7)), (.int .u8 (7)), (.int .u8 (7)), (.int .u8 (7)), (.int .u8 (7)), (.int .u8 (7)), (.int .u8 (7)), (.int .u8 (7)), (.int .u8 (7)), (.int .u8 (7)), (.int .u8 (7)), (.int .u8 (7)), (.int .u8 (7)), (.int .u8 (7)), (.int .u8 (7)), (.int .u8 (7)), (.int .u8 (7)), (.int .u8 (7)), (.int .u8 (7)), (.int .u8 (7)), (.int .u8 (7)), (.int .u8 (7)), (.int .u8 (7)), (.int .u8 (7)), (.int .u8 (7)), (.int .u8 (7)), (.int .u8 (7)), (.int .u8 (7)), (.int .u8 (7)), (.int .u8 (7)), (.int .u8 (7)), (.int .u8 (7)), (.int .u8 (7)), (.int .u8 (7)), (.int .u8 (7)), (.int .u8 (7)), (.int .u8 (7)), (.int .u8 (7)), (.int .u8 (8)), (.int .u8 (8)), (.int .u8 (8)), (.int .u8 (8)), (.int .u8 (8)), (.int .u8 (8)), (.int .u8 (8)), (.int .u8 (8)), (.int .u8 (8)), (.int .u8 (8)), (.int .u8 (8)), (.int .u8 (8)), (.int .u8 (8)), (.int .u8 (8)), (.int .u8 (8)), (.int .u8 (8)), (.int .u8 (8)), (.int .u8 (8)), (.int .u8 (8)), (.int .u8 (8)), (.int .u8 (8)), (.int .u8 (8)), (.int .u8 (8)), (.int .u8 (8)), (.int .u8 (8)), (.int .u8 (8)), (.int .u8 (8)), (.int .u8 (8)), (.int .u8 (8)), (.int .u8 (8)), (.int .u8 (8)), (.int .u8 (8)), (.int .u8 (8)), (.int .u8 (8)), (.int .u8 (8)), (.int .u8 (8)), (.int .u8 (8)), (.int .u8 (8)), (.int .u8 (8)), (.int .u8 (8)), (.int .u8 (8)), (.int .u8 (8)), (.int .u8 (8)), (.int .u8 (8)), (.int .u8 (8)), (.int .u8 (8)), (.int .u8 (8)), (.int .u8 (8)), (.int .u8 (8)), (.int .u8 (8)), (.int .u8 (8)), (.int .u8 (8)), (.int .u8 (8)), (.int .u8 (8)), (.int .u8 (8)), (.int .u8 (8)), (.int .u8 (8)), (.int .u8 (8)), (.int .u8 (8)), (.int .u8 (8)), (.int .u8 (8)), (.int .u8 (8)), (.int .u8 (8)), (.int .u8 (8)), (.int .u8 (8)), (.int .u8 (8)), (.int .u8 (8)), (.int .u8 (8)), (.int .u8 (8)), (.int .u8 (8)), (.int .u8 (8)), (.int .u8 (8)), (.int .u8 (8)), (.int .u8 (8)), (.int .u8 (8)), (.int .u8 (8)), (.int .u8 (8)), (.int .u8 (8)), (.int .u8 (8)), (.int .u8 (8)), (.int .u8 (8)), (.int .u8 (8)), (.int .u8 (8)), (.int .u8 (8)), (.int .u8 (8)), (.int .u8 (8)), (.int .u8 (8)), (.int .u8 (8)), (.int .u8 (8)), (.int .u8 (8)), (.int .u8 (8)), (.int .u8 (8)), (.int .u8 (8)), (.int .u8 (8)), (.int .u8 (8)), (.int .u8 (8)), (.int .u8 (8)), (.int .u8 (8)), (.int .u8 (8)), (.int .u8 (8)), (.int .u8 (8)), (.int .u8 (8)), (.int .u8 (8)), (.int .u8 (8)), (.int .u8 (8)), (.int .u8 (8)), (.int .u8 (8)), (.int .u8 (8)), (.int .u8 (8)), (.int .u8 (8)), (.int .u8 (8)), (.int .u8 (8)), (.int .u8 (8)), (.int .u8 (8)), (.int .u8 (8)), (.int .u8 (8)), (.int .u8 (8)), (.int .u8 (8)), (.int .u8 (8)), (.int .u8 (8)), (.int .u8 (8)), (.int .u8 (8)), (.int .u8 (8)), (.int .u8 (8)), (.int .u8 (8)), (.int .u8 (8)), (.int .u8 (8)), (.int .u8 (8))])) (.t 15)), O 17 (.conv .i64 (.t 16)), oX 18 .add 13 17, M 2 18] [0, 8, 13, 14, 15, 16, 17, 18]) .ret))))⟩
def t_m_Len64 : TFn := ⟨1, [.tmp 2], (.seq (oQ [O 2 (.mv (I 0))] []) (.seq (.seq (oQ [M 3 0, O 4 (.bin .geq (.t 3) (.c (.int .u64 (4294967296))))] [3]) (.cond (.t 4) (.seq (oQ [M 5 0, O 6 (.bin .shr (.t 5) (.c (.int .u64 (32)))), M 0 6] [2, 4, 5, 6]) (oQ [O 2 (.mv (I 32))] [])) .skip)) (.seq (.seq (oQ [M 7 0, O 8 (.bin .geq (.t 7) (.c (.int .u64 (65536))))] [4, 7]) (.cond (.t 8) (.seq (oQ [M 9 0, O 10 (.bin .shr (.t 9) (.c (.int .u64 (16)))), M 0 10] [8, 9, 10]) (oQ [M 11 2, O 12 (.bin .add (.t 11) (I 16)), M 2 12] [11, 12])) .skip)) (.seq (.seq (oQ [M 13 0, O 14 (.bin .geq (.t 13) (.c (.int .u64 (256))))] [8, 13]) (.cond (.t 14) (.seq (oQ [M 15 0, O 16 (.bin .shr (.t 15) (.c (.int .u64 (8)))), M 0 16] [14, 15, 16]) (oQ [M 17 2, O 18 (.bin .add (.t 17) (I 8)), M 2 18] [17, 18])) .skip)) (.seq (oQ [M 19 2, M 20 0, O 21 (.conv .u8 (.t 20)), O 22 (.idx false 256 1 (.c (.agg [(.int .u8 (0)), (.int .u8 (1)), (.int .u8 (2)), (.int .u8 (2)), (.int .u8 (3)), (.int .u8 (3)), (.int .u8 (3)), (.int .u8 (3)), (.int .u8 (4)), (.int .u8 (4)), (.int .u8 (4)), (.int .u8 (4)), (.int .u8 (4)), (.int .u8 (4)), (.int .u8 (4)), (.int .u8 (4)), (.int .u8 (5)), (.int .u8 (5)), (.int .u8 (5)), (.int .u8 (5)), (.int .u8 (5)), (.int .u8 (5)), (.int .u8 (5)), (.int .u8 (5)), (.int .u8 (5)), (.int .u8 (5)), (.int .u8 (5)), (.int .u8 (5)), (.int .u8 (5)), (.int .u8 (5)), (.int .u8 (5)), (.int .u8 (5)), (.int .u8 (6)), (.int .u8 (6)), (.int .u8 (6)), (.int .u8 (6)), (.int .u8 (6)), (.int .u8 (6)), (.int .u8 (6)), (.int .u8 (6)), (.int .u8 (6)), (.int .u8 (6)), (.int .u8 (6)), (.int .u8 (6)), (.int .u8 (6)), (.int .u8 (6)), (.int .u8 (6)), (.int .u8 (6)), (.int .u8 (6)), (.int .u8 (6)), (.int .u8 (6)), (.int .u8 (6)), (.int .u8 (6)), (.int .u8 (6)), (.int .u8 (6)), (.int .u8 (6)), (.int .u8 (6)), (.int .u8 (6)), (.int .u8 (6)), (.int .u8 (6)), (.int .u8 (6)), (.int .u8 (6)), (.int .u8 (6)), (.int .u8 (6)), (.int .u8 (7)), (.int .u8 (7)), (.int .u8 (7)), (.int .u8 (7)), (.int .u8 (7)), (.int .u8 (7)), (.int .u8 (7)), (.int .u8 (7)), (.int .u8 (7)), (.int .u8 (7)), (.int .u8 (7)), (.int .u8 (7)), (.int .u8 (7)), (.int .u8 (7)), (.int .u8 (7)), (.int .u8 (7)), (.int .u8 (7)), (.int .u8 (7)), (.int .u8 (7)), (.int .u8 (7)), (.int .u8 (7)), (.int .u8 (7)), (.int .u8 (7)), (.int .u8 (7)), (.int .u8 (7)), (.int .u8 (7)), (.int .u8 (7)), (.int .u8 (7)), (.int .u8 (7)), (.int .u8 (7)), (.int .u8 (7)), (.int .u8 (7)), (.int .u8 (7)), (.int .u8 (7)), (.int .u8 (7)), (.int .u8 (7)), (.int .u8 (7)), (.int .u8 (7)), (.int .u8 (7)), (.int .u8 (7)), (.int .u8 (7)), (.int .u8 (7)), (.int .u8 (7)), (.int .u8 (7)), (.int .u8 (7)), (.int .u8 (7)), (.int .u8 (7)), (.int .u8 (7)), (.int .u8 (7)), (.int .u8 (7)), (.int .u8 (7)), (.int .u8 (7)), (.int .u8 (7)), (.int .u8 (7)), (.int .u8 (7)), (.int .u8 (7)), (.int .u8 (7)), (.int .u8 (7)), (.int .u8 (7)), (.int .u8 (7)), (.int .u8 (7)), (.int .u8 (7)), (.int .u8 (7)), (.int .u8 (7)), (.int .u8 (8)), (.int .u8 (8)), (.int .u8 (8)), (.int .u8 (8)), (.int .u8 (8)), (.int .u8 (8)), (.int .u8 (8)), (.int .u8 (8)), (.int .u8 (8)), (.int .u8 (8)), (.int .u8 (8)), (.int .u8 (8)), (.int .u8 (8)), (.int .u8 (8)), (.int .u8 (8)), (.int .u8 (8)), (.int .u8 (8)), (.int .u8 (8)), (.int .u8 (8)), (.int .u8 (8)), (.int .u8 (8)), (.int .u8 (8)), (.int .u8 (8)), (.int .u8 (8)), (.int .u8 (8)), (.int .u8 (8)), (.int .u8 (8)), (.int .u8 (8)), (.int .u8 (8)), (.int .u8 (8)), (.int .u8 (8)), (.int .u8 (8)), (.int .u8 (8)), (.int .u8 (8)), (.int .u8 (8)), (.int .u8 (8)), (.int .u8 (8)), (.int .u8 (8)), (.int .u8 (8)), (.int .u8 (8)), (.int .u8 (8)), (.int .u8 (8)), (.int .u8 (8)), (.int .u8 (8)), (.int .u8 (8)), (.int .u8 (8)), (.int .u8 (8)), (.int .u8 (8)), (.int .u8 (8)), (.int .u8 (8)), (.int .u8 (8)), (.int .u8 (8)), (.int .u8 (8)), (.int .u8 (8)), (.int .u8 (8)), (.int .u8 (8)), (.int .u8 (8)), (.int .u8 (8)), (.int .u8 (8)), (.int .u8 (8)), (.int .u8 (8)), (.int .u8 (8)), (.int .u8 (8)), (.int .u8 (8)), (.int .u8 (8)), (.int .u8 (8)), (.int .u8 (8)), (.int .u8 (8)), (.int .u8 (8)), (.int .u8 (8)), (.int .u8 (8)), (.int .u8 (8)), (.int .u8 (8)), (.int .u8 (8)), (.int .u8 (8)), (.int .u8 (8)), (.int .u8 (8)), (.int .u8 (8)), (.int .u8 (8)), (.int .u8 (8)), (.int .u8 (8)), (.int .u8 (8)), (.int .u8 (8)), (.int .u8 (8)), (.int .u8 (8)), (.int .u8 (8)), (.int .u8 (8)), (.int .u8 (8)), (.int .u8 (8)), (.int .u8 (8)), (.int .u8 (8)), (.int .u8 (8)), (.int .u8 (8)), (.int .u8 (8)), (.int .u8 (8)), (.int .u8 (8)), (.int .u8 (8)), (.int .u8 (8)), (.int .u8 (8)), (.int .u8 (8)), (.int .u8 (8)), (.int .u8 (8)), (.int .u8 (8)), (.int .u8 (8)), (.int .u8 (8)), (.int .u8 (8)), (.int .u8 (8)), (.int .u8 (8)), (.int .u8 (8)), (.int .u8 (8)), (.int .u8 (8)), (.int .u8 (8)), (.int .u8 (8)), (.int .u8 (8)), (.int .u8 (8)), (.int .u8 (8)), (.int .u8 (8)), (.int .u8 (8)), (.int .u8 (8)), (.int .u8 (8)), (.int .u8 (8)), (.int .u8 (8)), (.int .u8 (8)), (.int .u8 (8)), (.int .u8 (8)), (.int .u8 (8)), (.int .u8 (8)), (.int .u8 (8))])) (.t 21)), O 23 (.conv .i64 (.t 22)), oX 24 .add 19 23, M 2 24] [0, 14, 19, 20, 21, 22, 23, 24]) .ret)))))⟩
def t_m_Len : TFn := ⟨1, [.tmp 2], (.seq (oQ [O 2 (.mv (I 0))] [2]) (.seq (.cond (.c (.bool false)) (.seq (oQ [M 3 0, O 4 (.conv .u32 (.t 3)), O 5 (.call (.f n_m_Len32) [(.t 4)]), M 2 5] [0, 3, 4, 5]) .ret) .skip) (.seq (oQ [M 6 0, O 7 (.call (.f n_m_Len64) [(.t 6)]), M 2 7] [0, 6, 7]) .ret)))⟩
def b_50371500 : TCode := (.seq (.seq (.ops [M 18 9, M 19 1, oX 20 .gtr 18 19, M 21 20, ⟨some 22, (.mv (.t 3)), some (21, true)⟩, ⟨some 23, (.mv (.t 0)), some (21, true)⟩, ⟨some 24, (.mv (.t 9)), some (21, true)⟩, ⟨some 25, (.iad 2 (.t 23) (.t 24)), some (21, true)⟩, ⟨some 26, (.load true 2 (.t 25)), some (21, true)⟩, ⟨some 27, (.mv (.t 0)), some (21, true)⟩, ⟨some 28, (.mv (.t 9)), some (21, true)⟩, ⟨some 29, (.bin .sub (.t 28) (I 1)), some (21, true)⟩, ⟨some 30, (.iad 2 (.t 27) (.t 29)), some (21, true)⟩, ⟨some 31, (.load true 2 (.t 30)), some (21, true)⟩, ⟨some 32, (.call (.t 22) [(.t 26), (.t 31)]), some (21, true)⟩, ⟨some 33, (.bin .lss (.t 32) (I 0)), some (21, true)⟩, O 34 (.pick (.t 21) (.t 33) (.c (.bool false)))] [⟨7, (.agg [.i .i64, .i .i64]), 0⟩, ⟨8, (.agg [.i .i64, .i .i64]), 0⟩, ⟨12, (.agg [.i .i64, .i .i64]), 0⟩, ⟨13, (.agg [.i .i64, .i .i64]), 0⟩] [(0, 1), (4, 5), (4, 6), (5, 6), (4, 7), (4, 8), (4, 9), (5, 9), (6, 9), (7, 9), (8, 9), (4, 10), (5, 10), (6, 10), (7, 10), (8, 10), (9, 10), (4, 11), (5, 11), (6, 11), (7, 11), (8, 11), (9, 11), (4, 12), (5, 12), (6, 12), (7, 12), (8, 12), (4, 13), (5, 13), (6, 13), (7, 13), (8, 13)] [18, 19, 20, 21, 22, 23, 24, 25, 26, 27, 28, 29, 30, 31, 32, 33]) (.cond (.t 34) .skip (.exit 2))) (.seq (.block 3 (.ops [M 37 0, M 38 9, M 39 0, M 40 9, O 41 (.bin .sub (.t 40) (I 1)), M 42 0, M 43 9, O 44 (.bin .sub (.t 43) (I 1)), O 45 (.iad 2 (.t 42) (.t 44)), oT 46 2 45, M 47 0, M 48 9, O 49 (.iad 2 (.t 47) (.t 48)), oT 50 2 49, O 51 (.iad 2 (.t 37) (.t 38)), ⟨none, (.store 2 (.t 51) (.t 46)), none⟩, O 52 (.iad 2 (.t 39) (.t 41)), ⟨none, (.store 2 (.t 52) (.t 50)), none⟩] [⟨8, (.agg [.i .i64, .i .i64]), 0⟩, ⟨9, (.agg [.i .i64, .i .i64]), 0⟩, ⟨12, (.agg [.i .i64, .i .i64]), 0⟩, ⟨13, (.agg [.i .i64, .i .i64]), 0⟩, ⟨14, (.agg [.i .i64, .i .i64]), 0⟩, ⟨15, (.agg [.i .i64, .i .i64]), 0⟩, ⟨16, (.agg [.i .i64, .i .i64]), 0⟩, ⟨17, (.agg [.i .i64, .i .i64]), 0⟩] [(0, 1), (0, 2), (1, 2), (0, 3), (1, 3), (2, 3), (0, 4), (1, 4), (2, 4), (0, 5), (1, 5), (2, 5), (3, 5), (4, 5), (0, 6), (1, 6), (2, 6), (3, 6), (4, 6), (5, 6), (0, 7), (1, 7), (2, 7), (3, 7), (4, 7), (5, 7), (0, 8), (1, 8), (2, 8), (3, 8), (4, 8), (0, 9), (1, 9), (2, 9), (3, 9), (4, 9), (0, 10), (1, 10), (2, 10), (3, 10), (4, 10), (5, 10), (6, 10), (7, 10), (8, 10), (9, 10), (0, 11), (1, 11), (2, 11), (3, 11), (4, 11), (5, 11), (6, 11), (7, 11), (8, 11), (9, 11), (10, 11), (0, 12), (1, 12), (2, 12), (3, 12), (4, 12), (5, 12), (6, 12), (7, 12), (8, 12), (9, 12), (0, 13), (1, 13), (2, 13), (3, 13), (4, 13), (5, 13), (6, 13), (7, 13), (8, 13), (9, 13), (2, 14), (3, 14), (4, 14), (2, 15), (3, 15), (4, 15)] [34, 37, 38, 39, 40, 41, 42, 43, 44, 45, 46, 47, 48, 49, 50, 51, 52])) (oQ [M 35 9, O 36 (.bin .sub (.t 35) (I 1)), M 9 36] [35, 36])))
def b_50371501 : TCode := (.seq (.seq (oQ [M 12 8, M 13 2, oX 14 .lss 12 13] [12, 13]) (.cond (.t 14) .skip (.exit 0))) (.seq (.block 1 (.seq (oQ [M 17 8, M 9 17] [14, 17]) (.block 2 (.loop 50371500 b_50371500)))) (oQ [M 15 8, O 16 (.bin .add (.t 15) (I 1)), M 8 16] [9, 15, 16, 34])))
def t_slices_insertionSortCmpFunc_api_Ratio : TFn := ⟨4, [], (.seq (oQ [M 10 1, O 11 (.bin .add (.t 10) (I 1)), M 8 11] [10, 11]) (.block 0 (.loop 50371501 b_50371501)))⟩
def b_36304500 : TCode := (.block 1 (.seq (oQ [M 21 2, M 22 1, oX 23 .sub 21 22, M 12 23] [21, 22, 23]) (.seq (.seq (oQ [M 24 12, O 25 (.bin .leq (.t 24) (I 12))] [24]) (.cond (.t 25) (.seq (oQ [M 26 0, M 27 1, M 28 2, M 29 4, O 30 (.call (.f n_slices_insertionSortCmpFunc_api_Ratio) [(.t 26), (.t 27), (.t 28), (.t 29)])] [0, 1, 2, 3, 4, 10, 11, 12, 25, 26, 27, 28, 29, 30]) .ret) .skip)) (.seq (.seq (oQ [M 31 3, O 32 (.bin .eql (.t 31) (I 0))] [25, 31]) (.cond (.t 32) (.seq (oQ [M 33 0, M 34 1, M 35 2, M 36 4, O 37 (.call (.f 90) [(.t 33), (.t 34), (.t 35), (.t 36)])] [0, 1, 2, 3, 4, 10, 11, 12, 32, 33, 34, 35, 36, 37]) .ret) .skip)) (.seq (.seq (oQ [M 38 10, O 39 (.un .not (.t 38))] [32, 38]) (.cond (.t 39) (.seq (oQ [M 40 0, M 41 1, M 42 2, M 43 4, O 44 (.call (.f 91) [(.t 40), (.t 41), (.t 42), (.t 43)])] [39, 40, 41, 42, 43, 44]) (oQ [M 45 3, O 46 (.bin .sub (.t 45) (I 1)), M 3 46] [45, 46])) .skip)) (.seq (oQ [M 48 0, M 49 1, M 50 2, M 51 4, O 52 (.call (.f 92) [(.t 48), (.t 49), (.t 50), (.t 51)]), M 47 52, O 53 (.ext (.t 47) 0), O 54 (.ext (.t 47) 1), M 13 53, M 14 54] [39, 47, 48, 49, 50, 51, 52, 53, 54]) (.seq (.seq (oQ [M 55 14, O 56 (.bin .eql (.t 55) (I 2))] [55]) (.cond (.t 56) (.seq (oQ [M 57 0, M 58 1, M 59 2, M 60 4, O 61 (.call (.f 93) [(.t 57), (.t 58), (.t 59), (.t 60)])] [14, 56, 57, 58, 59, 60, 61]) (.seq (oQ [M 62 2, O 63 (.bin .sub (.t 62) (I 1)), M 64 13, M 65 1, oX 66 .sub 64 65, oX 67 .sub 63 66, M 13 67] [62, 63, 64, 65, 66, 67]) (oQ [O 14 (.mv (I 1))] []))) .skip)) (.seq (.seq (oQ [M 68 10, M 69 68, ⟨some 70, (.mv (.t 11)), some (69, true)⟩, O 71 (.pick (.t 69) (.t 70) (.c (.bool false))), M 72 71, ⟨some 73, (.mv (.t 14)), some (72, true)⟩, ⟨some 74, (.bin .eql (.t 73) (I 1)), some (72, true)⟩, O 75 (.pick (.t 72) (.t 74) (.c (.bool false)))] [14, 56, 68, 69, 70, 71, 72, 73, 74]) (.cond (.t 75) (.seq (oQ [M 76 0, M 77 1, M 78 2, M 79 4, O 80 (.call (.f 94) [(.t 76), (.t 77), (.t 78), (.t 79)])] [75, 76, 77, 78, 79]) (.cond (.t 80) .ret .skip)) .skip)) (.seq (.seq (.ops [M 81 1, O 82 (.bin .gtr (.t 81) (I 0)), M 83 82, ⟨some 84, (.mv (.t 4)), some (83, true)⟩, ⟨some 85, (.mv (.t 0)), some (83, true)⟩, ⟨some 86, (.mv (.t 1)), some (83, true)⟩, ⟨some 87, (.bin .sub (.t 86) (I 1)), some (83, true)⟩, ⟨some 88, (.iad 2 (.t 85) (.t 87)), some (83, true)⟩, ⟨some 89, (.load true 2 (.t 88)), some (83, true)⟩, ⟨some 90, (.mv (.t 0)), some (83, true)⟩, ⟨some 91, (.mv (.t 13)), some (83, true)⟩, ⟨some 92, (.iad 2 (.t 90) (.t 91)), some (83, true)⟩, ⟨some 93, (.load true 2 (.t 92)), some (83, true)⟩, ⟨some 94, (.call (.t 84) [(.t 89), (.t 93)]), some (83, true)⟩, ⟨some 95, (.bin .lss (.t 94) (I 0)), some (83, true)⟩, ⟨some 96, (.un .not (.t 95)), some (83, true)⟩, O 97 (.pick (.t 83) (.t 96) (.c (.bool false)))] [⟨7, (.agg [.i .i64, .i .i64]), 0⟩, ⟨8, (.agg [.i .i64, .i .i64]), 0⟩, ⟨11, (.agg [.i .i64, .i .i64]), 0⟩, ⟨12, (.agg [.i .i64, .i .i64]), 0⟩] [(3, 4), (3, 5), (4, 5), (3, 6), (4, 6), (3, 7), (3, 8), (3, 9), (4, 9), (5, 9), (6, 9), (7, 9), (8, 9), (3, 10), (4, 10), (5, 10), (6, 10), (7, 10), (8, 10), (9, 10), (3, 11), (4, 11), (5, 11), (6, 11), (7, 11), (8, 11), (3, 12), (4, 12), (5, 12), (6, 12), (7, 12), (8, 12)] [75, 80, 81, 82, 83, 84, 85, 86, 87, 88, 89, 90, 91, 92, 93, 94, 95, 96]) (.cond (.t 97) (.seq (oQ [M 98 0, M 99 1, M 100 2, M 101 13, M 102 4, O 103 (.call (.f 95) [(.t 98), (.t 99), (.t 100), (.t 101), (.t 102)]), M 15 103] [1, 12, 13, 97, 98, 99, 100, 101, 102, 103]) (.seq (oQ [M 104 15, M 1 104] [15, 104]) (.exit 1))) .skip)) (.seq (oQ [M 106 0, M 107 1, M 108 2, M 109 13, M 110 4, O 111 (.call (.f 96) [(.t 106), (.t 107), (.t 108), (.t 109), (.t 110)]), M 105 111, O 112 (.ext (.t 105) 0), O 113 (.ext (.t 105) 1), M 16 112, M 17 113] [10, 11, 13, 97, 105, 106, 107, 108, 109, 110, 111, 112, 113]) (.seq (oQ [M 114 17, M 11 114] [17, 114]) (.seq (oQ [M 115 16, M 116 1, oX 117 .sub 115 116, M 118 2, M 119 16, oX 120 .sub 118 119, M 18 117, M 19 120] [115, 116, 117, 118, 119, 120]) (.seq (oQ [M 121 12, O 122 (.bin .quo (.t 121) (I 8)), M 20 122] [12, 121, 122]) (.seq (oQ [M 123 18, M 124 19, oX 125 .lss 123 124] [123, 124]) (.cond (.t 125) (.seq (oQ [M 126 18, M 127 20, oX 128 .geq 126 127, M 10 128] [18, 19, 20, 125, 126, 127, 128]) (.seq (oQ [M 129 0, M 130 1, M 131 16, M 132 3, M 133 4, O 134 (.call (.f n_slices_pdqsortCmpFunc_api_Ratio) [(.t 129), (.t 130), (.t 131), (.t 132), (.t 133)])] [1, 129, 130, 131, 132, 133, 134]) (oQ [M 135 16, O 136 (.bin .add (.t 135) (I 1)), M 1 136] [16, 135, 136]))) (.seq (oQ [M 137 19, M 138 20, oX 139 .geq 137 138, M 10 139] [18, 19, 20, 125, 137, 138, 139]) (.seq (oQ [M 140 0, M 141 16, O 142 (.bin .add (.t 141) (I 1)), M 143 2, M 144 3, M 145 4, O 146 (.call (.f n_slices_pdqsortCmpFunc_api_Ratio) [(.t 140), (.t 142), (.t 143), (.t 144), (.t 145)])] [2, 140, 141, 142, 143, 144, 145, 146]) (oQ [M 147 16, M 2 147] [16, 147]))))))))))))))))))
def t_slices_pdqsortCmpFunc_api_Ratio : TFn := ⟨5, [], (.seq (oQ [O 10 (.mv (.c (.bool true)))] []) (.seq (oQ [O 11 (.mv (.c (.bool true)))] []) (.block 0 (.loop 36304500 b_36304500))))⟩
def t_s_SortFunc_api_Ratio_api_Ratio : TFn := ⟨2, [], (.seq (oQ [M 5 0, O 6 (.len (.t 5)), M 4 6] [5, 6]) (oQ [M 7 0, M 8 4, M 9 4, O 10 (.conv .u64 (.t 9)), O 11 (.call (.f n_m_Len) [(.t 10)]), M 12 1, O 13 (.call (.f n_slices_pdqsortCmpFunc_api_Ratio) [(.t 7), (I 0), (.t 8), (.t 11), (.t 12)])] [0, 1, 4, 7, 8, 9, 10, 11, 12, 13]))⟩
def b_36914300 : TCode := (.seq (.seq (oQ [M 29 5, M 30 4, O 31 (.len (.t 30)), oX 32 .lss 29 31] [29, 30, 31]) (.cond (.t 32) .skip (.exit 2))) (.seq (.block 3 (.seq (.ops [M 35 4, M 36 5, O 37 (.iad 2 (.t 35) (.t 36)), oT 38 2 37, M 39 4, M 40 5, O 41 (.bin .sub (.t 40) (I 1)), O 42 (.iad 2 (.t 39) (.t 41)), oT 43 2 42, O 44 (.eqA true 2 [(0, (some .i64)), (1, (some .i64))] (.t 38) (.t 43))] [⟨2, (.agg [.i .i64, .i .i64]), 0⟩, ⟨3, (.agg [.i .i64, .i .i64]), 0⟩, ⟨7, (.agg [.i .i64, .i .i64]), 0⟩, ⟨8, (.agg [.i .i64, .i .i64]), 0⟩] [(0, 1), (0, 4), (1, 4), (2, 4), (3, 4), (0, 5), (1, 5), (2, 5), (3, 5), (4, 5), (0, 6), (1, 6), (2, 6), (3, 6), (4, 6), (0, 7), (1, 7), (2, 7), (3, 7), (0, 8), (1, 8), (2, 8), (3, 8)] [32, 35, 36, 37, 38, 39, 40, 41, 42, 43]) (.cond (.t 44) (.seq (.ops [M 45 0, M 46 3, M 47 4, M 48 5, O 49 (.iad 2 (.t 47) (.t 48)), oT 50 2 49, O 51 (.iad 2 (.t 45) (.t 46)), ⟨none, (.store 2 (.t 51) (.t 50)), none⟩] [⟨4, (.agg [.i .i64, .i .i64]), 0⟩, ⟨5, (.agg [.i .i64, .i .i64]), 0⟩, ⟨6, (.agg [.i .i64, .i .i64]), 0⟩, ⟨7, (.agg [.i .i64, .i .i64]), 0⟩] [] [44, 45, 46, 47, 48, 49, 50, 51]) (oQ [M 52 3, O 53 (.bin .add (.t 52) (I 1)), M 3 53] [52, 53])) .skip))) (oQ [M 33 5, O 34 (.bin .add (.t 33) (I 1)), M 5 34] [33, 34, 44])))
def b_36914301 : TCode := (.seq (.seq (oQ [M 10 3, M 11 0, O 12 (.len (.t 11)), oX 13 .lss 10 12] [10, 11, 12]) (.cond (.t 13) .skip (.exit 0))) (.seq (.block 1 (.seq (.ops [M 16 0, M 17 3, O 18 (.iad 2 (.t 16) (.t 17)), oT 19 2 18, M 20 0, M 21 3, O 22 (.bin .sub (.t 21) (I 1)), O 23 (.iad 2 (.t 20) (.t 22)), oT 24 2 23, O 25 (.eqA false 2 [(0, (some .i64)), (1, (some .i64))] (.t 19) (.t 24))] [⟨2, (.agg [.i .i64, .i .i64]), 0⟩, ⟨3, (.agg [.i .i64, .i .i64]), 0⟩, ⟨7, (.agg [.i .i64, .i .i64]), 0⟩, ⟨8, (.agg [.i .i64, .i .i64]), 0⟩] [(0, 1), (0, 4), (1, 4), (2, 4), (3, 4), (0, 5), (1, 5), (2, 5), (3, 5), (4, 5), (0, 6), (1, 6), (2, 6), (3, 6), (4, 6), (0, 7), (1, 7), (2, 7), (3, 7), (0, 8), (1, 8), (2, 8), (3, 8)] [13, 16, 17, 18, 19, 20, 21, 22, 23, 24]) (.cond (.t 25) (.seq (oQ [M 26 0, M 27 3, O 28 (.slc 2 (.t 26) (some (.t 27)) none none), M 4 28] [25, 26, 27, 28]) (.seq (.seq (oQ [O 5 (.mv (I 1))] []) (.block 2 (.loop 36914300 b_36914300))) (.seq (oQ [M 54 0, M 55 3, O 56 (.slc 2 (.t 54) (some (.t 55)) none none), ⟨none, (.clr true 2 (.agg [(.int .i64 (0)), (.int .i64 (0))]) (.t 56)), none⟩] [4, 5, 32, 54, 55, 56]) (.seq (oQ [M 57 0, M 58 3, O 59 (.slc 2 (.t 57) none (some (.t 58)) none), M 2 59] [0, 3, 57, 58, 59]) .ret)))) .skip))) (oQ [M 14 3, O 15 (.bin .add (.t 14) (I 1)), M 3 15] [14, 15, 25])))
def t_s_Compact_api_Ratio_api_Ratio : TFn := ⟨1, [.tmp 2], (.seq (oQ [O 2 (.mv (.c .nils))] [2]) (.seq (.seq (oQ [M 6 0, O 7 (.len (.t 6)), O 8 (.bin .lss (.t 7) (I 2))] [6, 7]) (.cond (.t 8) (.seq (oQ [M 9 0, M 2 9] [0, 8, 9]) .ret) .skip)) (.seq (.seq (oQ [O 3 (.mv (I 1))] [8]) (.block 0 (.loop 36914301 b_36914301))) (.seq (oQ [M 60 0, M 2 60] [0, 3, 13, 60]) .ret))))⟩
def b_86101800 : TCode := (.seq (oQ [oX 15 .lss 14 13] []) (.seq (.cond (.t 15) .skip (.exit 0)) (.seq (.block 1 (.seq (.ops [O 16 (.iad 7 (.t 12) (.t 14)), oT 17 7 16, O 7 (.allocL (.agg [(.int .i64 (0)), (.int .i64 (0)), (.int .i64 (0)), (.int .i64 (0)), (.int .i64 (0)), (.int .i64 (0)), (.bool false)])), ⟨none, (.store 7 (.t 7) (.t 17)), none⟩] [⟨0, (.agg [.i .i64, .i .i64, .i .i64, .i .i64, .i .i64, .i .i64, .b]), 0⟩, ⟨1, (.agg [.i .i64, .i .i64, .i .i64, .i .i64, .i .i64, .i .i64, .b]), 0⟩] [] [15, 16, 17]) (.ops [M 18 5, O 19 (.fad 0 (.t 7)), oT 20 2 19, O 21 (.fad 2 (.t 7)), oT 22 2 21, O 23 (.buildD 2 (.agg [(.int .i64 (0)), (.int .i64 (0))]) 2 [(0, (.t 20)), (1, (.t 22))]), O 24 (.app true 2 16 (.t 18) (.t 23)), M 5 24] [⟨2, (.agg [.i .i64, .i .i64, .i .i64, .i .i64, .i .i64, .i .i64, .b]), 0⟩, ⟨4, (.agg [.i .i64, .i .i64, .i .i64, .i .i64, .i .i64, .i .i64, .b]), 0⟩] [] [7, 18, 19, 20, 21, 22, 23, 24]))) (oQ [O 25 (.bin .add (.t 14) (I 1)), M 14 25] [25]))))
def t_audit_pointsOf : TFn := ⟨2, [.tmp 4], (.seq (oQ [O 4 (.mv (.c .nils))] [4]) (.seq (oQ [O 8 (.call (.f n_audit_whole) [(I 0)]), M 9 0, O 10 (.call (.f n_audit_whole) [(.t 9)]), O 11 (.buildN true 2 (.agg [(.int .i64 (0)), (.int .i64 (0))]) 2 [(0, (.t 8)), (1, (.t 10))]), M 5 11] [0, 8, 9, 10, 11]) (.seq (.seq (oQ [M 12 1, O 13 (.len (.t 12)), O 14 (.mv (I 0))] [1]) (.block 0 (.loop 86101800 b_86101800))) (.seq (oQ [M 26 5, O 27 (.call (.f n_s_SortFunc_api_Ratio_api_Ratio) [(.t 26), (.f n_audit_order)])] [12, 13, 14, 15, 26, 27]) (.seq (oQ [M 28 5, O 29 (.call (.f n_s_Compact_api_Ratio_api_Ratio) [(.t 28)]), M 4 29] [5, 28, 29]) .ret)))))⟩
def b_10433800 : TCode := (.seq (.seq (oQ [M 15 9, M 16 10, oX 17 .lss 15 16] [15, 16]) (.cond (.t 17) .skip (.exit 0))) (.block 1 (.seq (oQ [M 18 9, M 19 10, oX 20 .add 18 19, O 21 (.conv .u64 (.t 20)), O 22 (.bin .shr (.t 21) (.c (.int .u64 (1)))), O 23 (.conv .i64 (.t 22)), M 11 23] [17, 18, 19, 20, 21, 22, 23]) (.seq (.ops [M 24 2, M 25 0, M 26 11, O 27 (.iad 2 (.t 25) (.t 26)), oT 28 2 27, oT 29 2 4, O 30 (.call (.t 24) [(.t 28), (.t 29)]), O 31 (.bin .lss (.t 30) (I 0))] [⟨3, (.agg [.i .i64, .i .i64]), 0⟩, ⟨4, (.agg [.i .i64, .i .i64]), 0⟩] [(0, 1), (0, 2), (1, 2), (0, 3), (0, 4), (0, 5), (1, 5), (2, 5), (3, 5), (4, 5)] [24, 25, 26, 27, 28, 29, 30]) (.cond (.t 31) (oQ [M 32 11, O 33 (.bin .add (.t 32) (I 1)), M 9 33] [11, 31, 32, 33]) (oQ [M 34 11, M 10 34] [11, 31, 34]))))))
def t_s_BinarySearchFunc_api_Ratio_api_Ratio_api_Ratio : TFn := ⟨3, [.tmp 6, .tmp 7], (.seq (oQ [O 4 (.boxL (.t 1)), O 6 (.mv (I 0)), O 7 (.mv (.c (.bool false)))] [1, 6, 7]) (.seq (oQ [M 12 0, O 13 (.len (.t 12)), M 8 13] [12, 13]) (.seq (oQ [M 14 8, O 9 (.mv (I 0)), M 10 14] [14]) (.seq (.block 0 (.loop 10433800 b_10433800)) (.seq (.ops [M 35 9, M 36 9, M 37 8, oX 38 .lss 36 37, M 39 38, ⟨some 40, (.mv (.t 2)), some (39, true)⟩, ⟨some 41, (.mv (.t 0)), some (39, true)⟩, ⟨some 42, (.mv (.t 9)), some (39, true)⟩, ⟨some 43, (.iad 2 (.t 41) (.t 42)), some (39, true)⟩, ⟨some 44, (.load true 2 (.t 43)), some (39, true)⟩, ⟨some 45, (.load true 2 (.t 4)), some (39, true)⟩, ⟨some 46, (.call (.t 40) [(.t 44), (.t 45)]), some (39, true)⟩, ⟨some 47, (.bin .eql (.t 46) (I 0)), some (39, true)⟩, O 48 (.pick (.t 39) (.t 47) (.c (.bool false))), M 6 35, M 7 48] [⟨8, (.agg [.i .i64, .i .i64]), 0⟩, ⟨9, (.agg [.i .i64, .i .i64]), 0⟩] [(0, 1), (0, 2), (1, 2), (0, 3), (0, 4), (0, 5), (0, 6), (5, 6), (0, 7), (5, 7), (6, 7), (0, 8), (5, 8), (0, 9), (5, 9), (0, 10), (5, 10), (6, 10), (7, 10), (8, 10), (9, 10), (0, 11), (0, 12), (0, 13), (12, 14), (13, 14)] [0, 2, 4, 8, 9, 10, 17, 35, 36, 37, 38, 39, 40, 41, 42, 43, 44, 45, 46, 47, 48]) .ret)))))⟩
def t_audit_heights_1 : TFn := ⟨2, [.tmp 3], (.seq (oQ [O 2 (.boxL (.t 0)), O 3 (.mv (I 0))] [0, 3]) (.seq (oQ [oF 7 1 1, oT 8 2 2, O 9 (.call (.f n_s_BinarySearchFunc_api_Ratio_api_Ratio_api_Ratio) [(.t 7), (.t 8), (.f n_audit_order)]), M 6 9, O 10 (.ext (.t 6) 0), O 11 (.ext (.t 6) 1), M 4 10, M 5 11] [1, 2, 5, 6, 7, 8, 9, 10, 11]) (.seq (oQ [M 12 4, M 3 12] [4, 12]) .ret)))⟩
def t_s_Clone_int64_int64 : TFn := ⟨1, [.tmp 2], (.seq (oQ [O 2 (.mv (.c .nils))] [2]) (.seq (.seq (oQ [M 3 0, O 4 (.eqN false (.t 3))] [3]) (.cond (.t 4) (.seq (oQ [O 2 (.mv (.c .nils))] [0, 4]) .ret) .skip)) (.seq (oQ [O 5 (.buildSl true 1 (.int .i64 (0)) 0 []), M 6 0, O 7 (.app true 1 8 (.t 5) (.t 6)), M 2 7] [0, 4, 5, 6, 7]) .ret)))⟩
def b_67911700 : TCode := (.seq (oQ [oX 14 .lss 13 12] []) (.seq (.cond (.t 14) .skip (.exit 0)) (.seq (.block 1 (.seq (oQ [M 15 13, M 5 15] [14, 15]) (.seq (.ops [M 16 0, M 17 5, O 18 (.iad 1 (.t 16) (.t 17)), oF 19 1 18, M 20 1, M 21 5, O 22 (.iad 1 (.t 20) (.t 21)), oF 23 1 22, oX 24 .neq 19 23] [⟨2, (.one (.i .i64)), 0⟩, ⟨3, (.one (.i .i64)), 0⟩, ⟨6, (.one (.i .i64)), 0⟩, ⟨7, (.one (.i .i64)), 0⟩] [(0, 1), (0, 4), (1, 4), (2, 4), (3, 4), (0, 5), (1, 5), (2, 5), (3, 5), (4, 5), (0, 6), (1, 6), (2, 6), (3, 6), (0, 7), (1, 7), (2, 7), (3, 7)] [5, 16, 17, 18, 19, 20, 21, 22, 23]) (.cond (.t 24) (.seq (oQ [O 4 (.mv (.c (.bool false)))] [0, 1, 12, 13, 24]) .ret) .skip)))) (oQ [O 25 (.bin .add (.t 13) (I 1)), M 13 25] [24, 25]))))
def t_s_Equal_int64_int64 : TFn := ⟨2, [.tmp 4], (.seq (oQ [O 4 (.mv (.c (.bool false)))] [4]) (.seq (.seq (oQ [M 6 0, O 7 (.len (.t 6)), M 8 1, O 9 (.len (.t 8)), oX 10 .neq 7 9] [6, 7, 8, 9]) (.cond (.t 10) (.seq (oQ [O 4 (.mv (.c (.bool false)))] [0, 1, 10]) .ret) .skip)) (.seq (.seq (oQ [M 11 0, O 12 (.len (.t 11)), O 13 (.mv (I 0))] [10, 11]) (.block 0 (.loop 67911700 b_67911700))) (.seq (oQ [O 4 (.mv (.c (.bool true)))] [0, 1, 12, 13, 14]) .ret))))⟩
def b_17934300 : TCode := (.seq (oQ [oX 30 .lss 29 28] []) (.seq (.cond (.t 30) .skip (.exit 0)) (.seq (.block 1 (.seq (.ops [O 31 (.iad 7 (.t 27) (.t 29)), oT 32 7 31, O 11 (.allocL (.agg [(.int .i64 (0)), (.int .i64 (0)), (.int .i64 (0)), (.int .i64 (0)), (.int .i64 (0)), (.int .i64 (0)), (.bool false)])), ⟨none, (.store 7 (.t 11) (.t 32)), none⟩] [⟨0, (.agg [.i .i64, .i .i64, .i .i64, .i .i64, .i .i64, .i .i64, .b]), 0⟩, ⟨1, (.agg [.i .i64, .i .i64, .i .i64, .i .i64, .i .i64, .i .i64, .b]), 0⟩] [] [30, 31, 32]) (.seq (.seq (.ops [O 33 (.fad 6 (.t 11)), oF 34 1 33, O 35 (.un .not (.t 34))] [⟨1, (.agg [.i .i64, .i .i64, .i .i64, .i .i64, .i .i64, .i .i64, .b]), 0⟩] [] [33, 34]) (.cond (.t 35) (.exit 1) .skip)) (.block 2 (.seq (.ops [O 37 (.fad 4 (.t 11)), O 38 (.fad 0 (.t 37)), oF 39 1 38, O 40 (.bin .gtr (.t 39) (I 0)), M 36 40] [⟨2, (.agg [.i .i64, .i .i64, .i .i64, .i .i64, .i .i64, .i .i64, .b]), 0⟩] [] [35, 37, 38, 39, 40]) (.cond (.t 36) (.ops [M 41 9, M 42 7, O 43 (.fad 2 (.t 11)), oT 44 2 43, O 45 (.call (.t 42) [(.t 44)]), O 46 (.iad 1 (.t 41) (.t 45)), ⟨none, (.store 1 (.t 46) (I 1)), none⟩] [⟨3, (.agg [.i .i64, .i .i64, .i .i64, .i .i64, .i .i64, .i .i64, .b]), 0⟩, ⟨5, (.one (.i .i64)), 0⟩, ⟨6, (.one (.i .i64)), 0⟩] [] [11, 36, 41, 42, 43, 44, 45, 46]) (.seq (.ops [O 48 (.fad 0 (.t 11)), oT 49 2 48, O 50 (.fad 2 (.t 11)), oT 51 2 50, O 52 (.eqA true 2 [(0, (some .i64)), (1, (some .i64))] (.t 49) (.t 51)), M 47 52] [⟨1, (.agg [.i .i64, .i .i64, .i .i64, .i .i64, .i .i64, .i .i64, .b]), 0⟩, ⟨3, (.agg [.i .i64, .i .i64, .i .i64, .i .i64, .i .i64, .i .i64, .b]), 0⟩] [] [11, 36, 48, 49, 50, 51, 52]) (.cond (.t 47) (.seq (oQ [O 6 (.mv (.c .nils))] [1, 2, 3, 7, 8, 9, 27, 28, 29, 47]) .ret) .skip)))))))) (oQ [O 53 (.bin .add (.t 29) (I 1)), M 29 53] [11, 35, 47, 53]))))
def b_17934301 : TCode := (.seq (.seq (oQ [M 64 14, M 65 12, O 66 (.len (.t 65)), oX 67 .lss 64 66] [64, 65, 66]) (.cond (.t 67) .skip (.exit 5))) (.seq (.block 6 (.ops [M 70 12, M 71 14, M 72 12, M 73 14, O 74 (.iad 1 (.t 72) (.t 73)), oF 75 1 74, M 76 12, M 77 14, O 78 (.bin .sub (.t 77) (I 1)), O 79 (.iad 1 (.t 76) (.t 78)), oF 80 1 79, M 81 9, M 82 14, O 83 (.iad 1 (.t 81) (.t 82)), oF 84 1 83, oX 85 .add 80 84, O 86 (.minmax true [(.t 75), (.t 85)]), O 87 (.iad 1 (.t 70) (.t 71)), ⟨none, (.store 1 (.t 87) (.t 86)), none⟩] [⟨4, (.one (.i .i64)), 0⟩, ⟨5, (.one (.i .i64)), 0⟩, ⟨9, (.one (.i .i64)), 0⟩, ⟨10, (.one (.i .i64)), 0⟩, ⟨13, (.one (.i .i64)), 0⟩, ⟨14, (.one (.i .i64)), 0⟩, ⟨17, (.one (.i .i64)), 0⟩, ⟨18, (.one (.i .i64)), 0⟩] [(0, 1), (0, 2), (1, 2), (0, 3), (1, 3), (2, 3), (0, 4), (1, 4), (0, 5), (1, 5), (0, 6), (1, 6), (2, 6), (3, 6), (4, 6), (5, 6), (0, 7), (1, 7), (2, 7), (3, 7), (4, 7), (5, 7), (6, 7), (0, 8), (1, 8), (2, 8), (3, 8), (4, 8), (5, 8), (6, 8), (0, 9), (1, 9), (2, 9), (3, 9), (4, 9), (5, 9), (0, 10), (1, 10), (2, 10), (3, 10), (4, 10), (5, 10), (0, 11), (1, 11), (2, 11), (3, 11), (4, 11), (5, 11), (6, 11), (7, 11), (8, 11), (9, 11), (10, 11), (0, 12), (1, 12), (2, 12), (3, 12), (4, 12), (5, 12), (6, 12), (7, 12), (8, 12), (9, 12), (10, 12), (11, 12), (0, 13), (1, 13), (2, 13), (3, 13), (4, 13), (5, 13), (6, 13), (7, 13), (8, 13), (9, 13), (10, 13), (0, 14), (1, 14), (2, 14), (3, 14), (4, 14), (5, 14), (6, 14), (7, 14), (8, 14), (9, 14), (10, 14), (0, 15), (1, 15), (2, 15), (3, 15), (4, 15), (5, 15), (0, 16), (1, 16)] [67, 70, 71, 72, 73, 74, 75, 76, 77, 78, 79, 80, 81, 82, 83, 84, 85, 86, 87])) (oQ [M 68 14, O 69 (.bin .add (.t 68) (I 1)), M 14 69] [68, 69])))
def b_17934302 : TCode := (.seq (oQ [oX 91 .lss 90 89] []) (.seq (.cond (.t 91) .skip (.exit 7)) (.seq (.block 8 (.seq (.ops [O 92 (.iad 7 (.t 88) (.t 90)), oT 93 7 92, O 16 (.allocL (.agg [(.int .i64 (0)), (.int .i64 (0)), (.int .i64 (0)), (.int .i64 (0)), (.int .i64 (0)), (.int .i64 (0)), (.bool false)])), ⟨none, (.store 7 (.t 16) (.t 93)), none⟩] [⟨0, (.agg [.i .i64, .i .i64, .i .i64, .i .i64, .i .i64, .i .i64, .b]), 0⟩, ⟨1, (.agg [.i .i64, .i .i64, .i .i64, .i .i64, .i .i64, .i .i64, .b]), 0⟩] [] [91, 92, 93]) (.seq (.ops [M 94 7, O 95 (.fad 0 (.t 16)), oT 96 2 95, O 97 (.call (.t 94) [(.t 96)]), M 98 7, O 99 (.fad 2 (.t 16)), oT 100 2 99, O 101 (.call (.t 98) [(.t 100)]), M 17 97, M 18 101] [⟨2, (.agg [.i .i64, .i .i64, .i .i64, .i .i64, .i .i64, .i .i64, .b]), 0⟩, ⟨6, (.agg [.i .i64, .i .i64, .i .i64, .i .i64, .i .i64, .i .i64, .b]), 0⟩] [(0, 1), (0, 2), (0, 4), (1, 4), (2, 4), (3, 4), (0, 5), (1, 5), (2, 5), (3, 5), (4, 5), (0, 6), (1, 6), (2, 6), (3, 6), (4, 6)] [94, 95, 96, 97, 98, 99, 100, 101]) (.seq (.ops [O 102 (.fad 4 (.t 16)), O 103 (.fad 0 (.t 102)), oF 104 1 103, M 105 2, O 106 (.fad 4 (.t 16)), O 107 (.fad 1 (.t 106)), oF 108 1 107, oX 109 .quo 105 108, oX 110 .mul 104 109, M 111 8, oX 112 .mul 110 111, M 19 112] [⟨2, (.agg [.i .i64, .i .i64, .i .i64, .i .i64, .i .i64, .i .i64, .b]), 0⟩, ⟨6, (.agg [.i .i64, .i .i64, .i .i64, .i .i64, .i .i64, .i .i64, .b]), 0⟩] [(0, 3), (1, 3), (2, 3), (0, 4), (1, 4), (2, 4), (3, 4), (0, 5), (1, 5), (2, 5), (3, 5), (0, 6), (1, 6), (2, 6), (3, 6), (0, 7), (1, 7), (2, 7), (0, 9), (1, 9), (2, 9), (3, 9), (4, 9), (5, 9), (6, 9), (7, 9), (8, 9)] [16, 102, 103, 104, 105, 106, 107, 108, 109, 110, 111, 112]) (.seq (.ops [M 113 12, M 114 18, M 115 12, M 116 18, O 117 (.iad 1 (.t 115) (.t 116)), oF 118 1 117, M 119 12, M 120 17, O 121 (.iad 1 (.t 119) (.t 120)), oF 122 1 121, M 123 19, oX 124 .add 122 123, O 125 (.minmax true [(.t 118), (.t 124)]), O 126 (.iad 1 (.t 113) (.t 114)), ⟨none, (.store 1 (.t 126) (.t 125)), none⟩] [⟨4, (.one (.i .i64)), 0⟩, ⟨5, (.one (.i .i64)), 0⟩, ⟨8, (.one (.i .i64)), 0⟩, ⟨9, (.one (.i .i64)), 0⟩, ⟨13, (.one (.i .i64)), 0⟩, ⟨14, (.one (.i .i64)), 0⟩] [(0, 1), (0, 2), (1, 2), (0, 3), (1, 3), (2, 3), (0, 4), (1, 4), (0, 5), (1, 5), (0, 6), (1, 6), (2, 6), (3, 6), (4, 6), (5, 6), (0, 7), (1, 7), (2, 7), (3, 7), (4, 7), (5, 7), (6, 7), (0, 8), (1, 8), (2, 8), (3, 8), (4, 8), (5, 8), (0, 9), (1, 9), (2, 9), (3, 9), (4, 9), (5, 9), (0, 10), (1, 10), (2, 10), (3, 10), (4, 10), (5, 10), (6, 10), (7, 10), (8, 10), (9, 10), (0, 11), (1, 11), (2, 11), (3, 11), (4, 11), (5, 11), (0, 12), (1, 12)] [113, 114, 115, 116, 117, 118, 119, 120, 121, 122, 123, 124, 125, 126]) (.ops [M 127 12, M 128 17, M 129 12, M 130 17, O 131 (.iad 1 (.t 129) (.t 130)), oF 132 1 131, M 133 12, M 134 18, O 135 (.iad 1 (.t 133) (.t 134)), oF 136 1 135, M 137 19, oX 138 .sub 136 137, O 139 (.minmax true [(.t 132), (.t 138)]), O 140 (.iad 1 (.t 127) (.t 128)), ⟨none, (.store 1 (.t 140) (.t 139)), none⟩] [⟨4, (.one (.i .i64)), 0⟩, ⟨5, (.one (.i .i64)), 0⟩, ⟨8, (.one (.i .i64)), 0⟩, ⟨9, (.one (.i .i64)), 0⟩, ⟨13, (.one (.i .i64)), 0⟩, ⟨14, (.one (.i .i64)), 0⟩] [(0, 1), (0, 2), (1, 2), (0, 3), (1, 3), (2, 3), (0, 4), (1, 4), (0, 5), (1, 5), (0, 6), (1, 6), (2, 6), (3, 6), (4, 6), (5, 6), (0, 7), (1, 7), (2, 7), (3, 7), (4, 7), (5, 7), (6, 7), (0, 8), (1, 8), (2, 8), (3, 8), (4, 8), (5, 8), (0, 9), (1, 9), (2, 9), (3, 9), (4, 9), (5, 9), (0, 10), (1, 10), (2, 10), (3, 10), (4, 10), (5, 10), (6, 10), (7, 10), (8, 10), (9, 10), (0, 11), (1, 11), (2, 11), (3, 11), (4, 11), (5, 11), (0, 12), (1, 12)] [17, 18, 19, 127, 128, 129, 130, 131, 132, 133, 134, 135, 136, 137, 138, 139, 140])))))) (oQ [O 141 (.bin .add (.t 90) (I 1)), M 90 141] [141]))))
def b_17934303 : TCode := (.seq (oQ [oX 61 .lss 60 59] []) (.seq (.cond (.t 61) .skip (.exit 3)) (.seq (.block 4 (.seq (oQ [M 62 12, O 63 (.call (.f n_s_Clone_int64_int64) [(.t 62)]), M 13 63] [61, 62, 63]) (.seq (.seq (oQ [O 14 (.mv (I 1))] []) (.block 5 (.loop 17934301 b_17934301))) (.seq (.seq (oQ [M 88 1, O 89 (.len (.t 88)), O 90 (.mv (I 0))] [14, 67]) (.block 7 (.loop 17934302 b_17934302))) (.seq (.seq (.ops [M 142 12, O 143 (.iad 1 (.t 142) (I 0)), oF 144 1 143, O 145 (.bin .gtr (.t 144) (I 0))] [⟨1, (.one (.i .i64)), 0⟩, ⟨2, (.one (.i .i64)), 0⟩] [] [88, 89, 90, 91, 142, 143, 144]) (.cond (.t 145) (.seq (oQ [O 6 (.mv (.c .nils))] [1, 2, 7, 8, 9, 12, 13, 59, 60, 145]) .ret) .skip)) (.seq (oQ [M 146 12, M 147 13, O 148 (.call (.f n_s_Equal_int64_int64) [(.t 146), (.t 147)])] [13, 145, 146, 147]) (.cond (.t 148) (.seq (.seq (.ops [M 149 9, O 150 (.iad 1 (.t 149) (I 0)), oF 151 1 150, O 152 (.bin .gtr (.t 151) (I 0))] [⟨1, (.one (.i .i64)), 0⟩, ⟨2, (.one (.i .i64)), 0⟩] [] [1, 2, 7, 8, 9, 59, 60, 148, 149, 150, 151]) (.cond (.t 152) (.seq (oQ [O 6 (.mv (.c .nils))] [12, 152]) .ret) .skip)) (.seq (oQ [M 153 12, M 6 153] [12, 152, 153]) .ret)) .skip))))))) (oQ [O 154 (.bin .add (.t 60) (I 1)), M 60 154] [148, 154]))))
def t_audit_heights : TFn := ⟨3, [.tmp 6], (.seq (oQ [O 3 (.boxH true 1 (.t 0)), O 6 (.mv (.c .nils))] [0, 6]) (.seq (oQ [O 20 (.mkFn (.func n_audit_heights_1) [] [(.t 3)]), M 7 20] [20]) (.seq (.ops [oF 21 1 3, O 22 (.len (.t 21)), O 23 (.bin .add (.t 22) (I 1)), M 8 23] [⟨0, (.one (.d)), 0⟩] [] [21, 22, 23]) (.seq (.ops [oF 24 1 3, O 25 (.len (.t 24)), O 26 (.mkSl true 1 8 (.int .i64 (0)) (.t 25) (.t 25)), M 9 26] [⟨0, (.one (.d)), 0⟩] [] [24, 25, 26]) (.seq (.seq (oQ [M 27 1, O 28 (.len (.t 27)), O 29 (.mv (I 0))] []) (.block 0 (.loop 17934300 b_17934300))) (.seq (.ops [oF 54 1 3, O 55 (.len (.t 54)), O 56 (.mkSl true 1 8 (.int .i64 (0)) (.t 55) (.t 55)), M 12 56] [⟨0, (.one (.d)), 0⟩] [] [27, 28, 29, 30, 54, 55, 56]) (.seq (.seq (.ops [oF 57 1 3, O 58 (.len (.t 57)), O 59 (.bin .add (.t 58) (I 1)), O 60 (.mv (I 0))] [⟨0, (.one (.d)), 0⟩] [] [3, 57, 58]) (.block 3 (.loop 17934303 b_17934303))) (.seq (oQ [O 6 (.mv (.c .nils))] [1, 2, 7, 8, 9, 12, 59, 60, 61]) .ret))))))))⟩
def t_ratio_signed : TFn := ⟨3, [.cell 6 true 2, .tmp 7], (.seq (oQ [O 6 (.allocL (.agg [(.int .i64 (0)), (.int .i64 (0))])), O 7 (.mv (I 0))] [7]) (.seq (.seq (oQ [M 8 1, M 9 2, O 10 (.minmax true [(.t 8), (.t 9)]), O 11 (.bin .gtr (.t 10) (.c (.int .u64 (1000000000000000000))))] [8, 9, 10]) (.cond (.t 11) (.seq (oQ [O 12 (.build [(.int .i64 (0)), (.int .i64 (0))] []), ⟨none, (.store 2 (.t 6) (.t 12)), none⟩, O 7 (.mv (I 16))] [0, 1, 2, 11, 12]) .ret) .skip)) (.seq (.seq (oQ [M 13 0] [0, 11]) (.cond (.t 13) (.seq (oQ [M 14 1, O 15 (.conv .i64 (.t 14)), O 16 (.un .neg (.t 15)), M 17 2, O 18 (.conv .i64 (.t 17)), O 19 (.build [(.int .i64 (0)), (.int .i64 (0))] [(0, 1, (.t 16)), (1, 1, (.t 18))]), ⟨none, (.store 2 (.t 6) (.t 19)), none⟩, O 7 (.mv (I 0))] [1, 2, 13, 14, 15, 16, 17, 18, 19]) .ret) .skip)) (.seq (oQ [M 20 1, O 21 (.conv .i64 (.t 20)), M 22 2, O 23 (.conv .i64 (.t 22)), O 24 (.build [(.int .i64 (0)), (.int .i64 (0))] [(0, 1, (.t 21)), (1, 1, (.t 23))]), ⟨none, (.store 2 (.t 6) (.t 24)), none⟩, O 7 (.mv (I 0))] [1, 2, 13, 20, 21, 22, 23, 24]) .ret))))⟩
def t_ratio_Make : TFn := ⟨2, [.cell 4 true 2, .tmp 5], (.seq (oQ [O 4 (.allocL (.agg [(.int .i64 (0)), (.int .i64 (0))])), O 5 (.mv (I 0))] [5]) (.seq (.seq (oQ [M 9 1, O 10 (.bin .eql (.t 9) (I 0))] [9]) (.cond (.t 10) (.seq (oQ [O 11 (.build [(.int .i64 (0)), (.int .i64 (0))] []), ⟨none, (.store 2 (.t 4) (.t 11)), none⟩, O 5 (.mv (I 18))] [0, 1, 10, 11]) .ret) .skip)) (.seq (oQ [M 12 0, O 13 (.call (.f n_ratio_size) [(.t 12)]), M 14 1, O 15 (.call (.f n_ratio_size) [(.t 14)]), M 6 13, M 7 15] [10, 12, 13, 14, 15]) (.seq (oQ [M 16 6, M 17 7, O 18 (.call (.f n_ratio_gcd) [(.t 16), (.t 17)]), M 8 18] [16, 17, 18]) (.seq (.ops [M 19 0, O 20 (.bin .lss (.t 19) (I 0)), M 21 1, O 22 (.bin .lss (.t 21) (I 0)), O 23 (.eqB true (.t 20) (.t 22)), M 24 6, M 25 8, oX 26 .quo 24 25, M 27 7, M 28 8, oX 29 .quo 27 28, O 30 (.call (.f n_ratio_signed) [(.t 23), (.t 26), (.t 29)]), O 31 (.ext (.t 30) 0), O 32 (.ext (.t 30) 1), ⟨none, (.store 2 (.t 4) (.t 31)), none⟩, M 5 32] [] [(0, 2), (1, 2), (0, 3), (1, 3), (0, 5), (1, 5), (2, 5), (3, 5), (4, 5), (0, 6), (1, 6), (2, 6), (3, 6), (4, 6), (5, 6), (0, 7), (1, 7), (2, 7), (3, 7), (4, 7), (0, 8), (1, 8), (2, 8), (3, 8), (4, 8), (5, 8), (6, 8), (7, 8), (0, 9), (1, 9), (2, 9), (3, 9), (4, 9), (5, 9), (6, 9), (7, 9), (8, 9), (0, 10), (1, 10), (2, 10), (3, 10), (4, 10), (5, 10), (6, 10), (7, 10), (12, 13)] [0, 1, 6, 7, 8, 19, 20, 21, 22, 23, 24, 25, 26, 27, 28, 29, 30, 31, 32]) .ret)))))⟩
def b_81034600 : TCode := (.seq (oQ [oX 49 .lss 48 47] []) (.seq (.cond (.t 49) .skip (.exit 0)) (.seq (.block 1 (.seq (.ops [O 50 (.iad 1 (.t 46) (.t 48)), oF 51 1 50, M 12 51] [⟨0, (.one (.i .i64)), 0⟩, ⟨1, (.one (.i .i64)), 0⟩] [] [49, 50, 51]) (.seq (oQ [M 53 12, M 54 8, M 55 10, O 56 (.len (.t 55)), O 57 (.bin .add (.t 56) (I 1)), oX 58 .mul 54 57, O 59 (.call (.f n_ratio_Make) [(.t 53), (.t 58)]), M 52 59, O 60 (.ext (.t 52) 0), O 61 (.ext (.t 52) 1), O 13 (.allocL (.agg [(.int .i64 (0)), (.int .i64 (0))])), ⟨none, (.store 2 (.t 13) (.t 60)), none⟩, M 14 61] [12, 14, 52, 53, 54, 55, 56, 57, 58, 59, 60, 61]) (.ops [O 62 (.fad 1 (.t 9)), oF 63 1 62, oT 64 2 13, O 65 (.buildD 2 (.agg [(.int .i64 (0)), (.int .i64 (0))]) 1 [(0, (.t 64))]), O 66 (.app true 2 16 (.t 63) (.t 65)), O 67 (.fad 1 (.t 9)), ⟨none, (.store 1 (.t 67) (.t 66)), none⟩] [⟨1, (.agg [.d, .d]), 0⟩, ⟨6, (.agg [.d, .d]), 0⟩] [] [13, 62, 63, 64, 65, 66, 67])))) (oQ [O 68 (.bin .add (.t 48) (I 1)), M 48 68] [68]))))
def t_audit_Guess : TFn := ⟨2, [.cell 4 true 2, .tmp 5], (.seq (oQ [O 4 (.allocL (.agg [.nils, .nils])), O 5 (.mv (I 0))] [5]) (.seq (oQ [M 16 0, M 17 1, O 18 (.call (.f n_audit_claims) [(.t 16), (.t 17)]), M 15 18, O 19 (.ext (.t 15) 0), O 20 (.ext (.t 15) 1), M 6 19, M 7 20] [1, 15, 16, 17, 18, 19, 20]) (.seq (.seq (oQ [M 21 7, O 22 (.bin .neq (.t 21) (I 0))] [21]) (.cond (.t 22) (.seq (oQ [O 23 (.build [.nils, .nils] []), M 24 7, ⟨none, (.store 2 (.t 4) (.t 23)), none⟩, M 5 24] [0, 6, 7, 22, 23, 24]) .ret) .skip)) (.seq (oQ [M 26 6, O 27 (.call (.f n_audit_scale) [(.t 26)]), M 25 27, O 28 (.ext (.t 25) 0), O 29 (.ext (.t 25) 1), M 8 28, M 7 29] [22, 25, 26, 27, 28, 29]) (.seq (.seq (oQ [M 30 7, O 31 (.bin .neq (.t 30) (I 0))] [30]) (.cond (.t 31) (.seq (oQ [O 32 (.build [.nils, .nils] []), M 33 7, ⟨none, (.store 2 (.t 4) (.t 32)), none⟩, M 5 33] [0, 6, 7, 8, 31, 32, 33]) .ret) .skip)) (.seq (oQ [M 34 0, M 35 6, O 36 (.call (.f n_audit_pointsOf) [(.t 34), (.t 35)]), O 37 (.build [.nils, .nils] [(0, 1, (.t 36))]), O 9 (.allocL (.agg [.nils, .nils])), ⟨none, (.store 2 (.t 9) (.t 37)), none⟩] [0, 7, 31, 34, 35, 36, 37]) (.seq (.ops [O 38 (.fad 0 (.t 9)), oF 39 1 38, M 40 6, M 41 8, O 42 (.call (.f n_audit_heights) [(.t 39), (.t 40), (.t 41)]), M 10 42] [⟨1, (.agg [.d, .d]), 0⟩] [] [6, 38, 39, 40, 41, 42]) (.seq (.seq (oQ [M 43 10, O 44 (.eqN false (.t 43))] [43]) (.cond (.t 44) (.seq (oQ [O 45 (.build [.nils, .nils] []), ⟨none, (.store 2 (.t 4) (.t 45)), none⟩, O 5 (.mv (I 6))] [8, 9, 10, 44, 45]) .ret) .skip)) (.seq (.seq (oQ [M 46 10, O 47 (.len (.t 46)), O 48 (.mv (I 0))] [44]) (.block 0 (.loop 81034600 b_81034600))) (.seq (oQ [oT 69 2 9, ⟨none, (.store 2 (.t 4) (.t 69)), none⟩, O 5 (.mv (I 0))] [8, 9, 10, 46, 47, 48, 49, 69]) .ret))))))))))⟩
def b_55097000 : TCode := (.seq (.seq (oQ [M 32 10, M 33 9, oX 34 .sub 32 33, O 35 (.bin .gtr (.t 34) (I 1))] [32, 33, 34]) (.cond (.t 35) .skip (.exit 0))) (.block 1 (.seq (oQ [M 36 9, M 37 10, oX 38 .add 36 37, O 39 (.bin .quo (.t 38) (I 2)), M 11 39] [35, 36, 37, 38, 39]) (.seq (.ops [M 40 0, M 41 6, M 42 11, O 43 (.slc 7 (.t 41) none (some (.t 42)) none), O 44 (.call (.f n_audit_pointsOf) [(.t 40), (.t 43)]), M 45 6, M 46 11, O 47 (.slc 7 (.t 45) none (some (.t 46)) none), M 48 8, O 49 (.call (.f n_audit_heights) [(.t 44), (.t 47), (.t 48)]), O 50 (.eqN false (.t 49))] [] [(0, 1), (0, 2), (1, 2), (0, 3), (0, 5), (1, 5), (2, 5), (3, 5), (4, 5), (0, 6), (1, 6), (2, 6), (3, 6), (4, 6), (5, 6), (0, 7), (1, 7), (2, 7), (3, 7), (4, 7), (0, 8), (1, 8), (2, 8), (3, 8), (4, 8), (5, 8), (6, 8), (7, 8)] [40, 41, 42, 43, 44, 45, 46, 47, 48, 49]) (.cond (.t 50) (oQ [M 51 11, M 10 51] [11, 50, 51]) (oQ [M 52 11, M 9 52] [11, 50, 52]))))))
def t_audit_First : TFn := ⟨2, [.tmp 4, .tmp 5], (.seq (oQ [O 4 (.mv (I 0)), O 5 (.mv (I 0))] [4, 5]) (.seq (oQ [M 13 0, M 14 1, O 15 (.call (.f n_audit_claims) [(.t 13), (.t 14)]), M 12 15, O 16 (.ext (.t 12) 0), O 17 (.ext (.t 12) 1), M 6 16, M 7 17] [1, 12, 13, 14, 15, 16, 17]) (.seq (.seq (oQ [M 18 7, O 19 (.bin .neq (.t 18) (I 0))] [18]) (.cond (.t 19) (.seq (oQ [M 20 7, O 4 (.mv (I 0)), M 5 20] [0, 6, 7, 19, 20]) .ret) .skip)) (.seq (oQ [M 22 6, O 23 (.call (.f n_audit_scale) [(.t 22)]), M 21 23, O 24 (.ext (.t 21) 0), O 25 (.ext (.t 21) 1), M 8 24, M 7 25] [19, 21, 22, 23, 24, 25]) (.seq (.seq (oQ [M 26 7, O 27 (.bin .neq (.t 26) (I 0))] [26]) (.cond (.t 27) (.seq (oQ [M 28 7, O 4 (.mv (I 0)), M 5 28] [0, 6, 7, 8, 27, 28]) .ret) .skip)) (.seq (oQ [M 29 6, O 30 (.len (.t 29)), O 31 (.bin .add (.t 30) (I 1)), O 9 (.mv (I 0)), M 10 31] [7, 27, 29, 30, 31]) (.seq (.block 0 (.loop 55097000 b_55097000)) (.seq (oQ [M 53 9, M 4 53, O 5 (.mv (I 0))] [0, 6, 8, 9, 10, 35, 53]) .ret))))))))⟩
def b_53352400 : TCode := (.seq (.seq (oQ [M 11 5, M 12 0, O 13 (.len (.t 12)), oX 14 .lss 11 13] [11, 12, 13]) (.cond (.t 14) .skip (.exit 0))) (.seq (.block 1 (.seq (.ops [M 17 0, M 18 5, O 19 (.iad 2 (.t 17) (.t 18)), oT 20 2 19, M 21 1, M 22 5, O 23 (.iad 2 (.t 21) (.t 22)), oT 24 2 23, O 25 (.eqA true 2 [(0, (some .i64)), (1, (some .i64))] (.t 20) (.t 24))] [⟨2, (.agg [.i .i64, .i .i64]), 0⟩, ⟨3, (.agg [.i .i64, .i .i64]), 0⟩, ⟨6, (.agg [.i .i64, .i .i64]), 0⟩, ⟨7, (.agg [.i .i64, .i .i64]), 0⟩] [(0, 1), (0, 4), (1, 4), (2, 4), (3, 4), (0, 5), (1, 5), (2, 5), (3, 5), (4, 5), (0, 6), (1, 6), (2, 6), (3, 6), (0, 7), (1, 7), (2, 7), (3, 7)] [14, 17, 18, 19, 20, 21, 22, 23, 24]) (.cond (.t 25) (.seq (oQ [O 4 (.mv (.c (.bool false)))] [0, 1, 5, 25]) .ret) .skip))) (oQ [M 15 5, O 16 (.bin .add (.t 15) (I 1)), M 5 16] [15, 16, 25])))
def t_r05_SameList : TFn := ⟨2, [.tmp 4], (.seq (oQ [O 4 (.mv (.c (.bool false)))] [4]) (.seq (.seq (oQ [M 6 0, O 7 (.len (.t 6)), M 8 1, O 9 (.len (.t 8)), oX 10 .neq 7 9] [6, 7, 8, 9]) (.cond (.t 10) (.seq (oQ [O 4 (.mv (.c (.bool false)))] [0, 1, 10]) .ret) .skip)) (.seq (.seq (oQ [O 5 (.mv (I 0))] [10]) (.block 0 (.loop 53352400 b_53352400))) (.seq (oQ [O 4 (.mv (.c (.bool true)))] [0, 1, 5, 14]) .ret))))⟩
def t_r05_Same : TFn := ⟨2, [.tmp 4], (.seq (oQ [O 2 (.boxL (.t 0)), O 3 (.boxL (.t 1)), O 4 (.mv (.c (.bool false)))] [0, 1, 4]) (.seq (.ops [O 5 (.fad 0 (.t 2)), oF 6 1 5, O 7 (.fad 0 (.t 3)), oF 8 1 7, O 9 (.call (.f n_r05_SameList) [(.t 6), (.t 8)]), M 10 9, ⟨some 11, (.fad 1 (.t 2)), some (10, true)⟩, ⟨some 12, (.load false 1 (.t 11)), some (10, true)⟩, ⟨some 13, (.fad 1 (.t 3)), some (10, true)⟩, ⟨some 14, (.load false 1 (.t 13)), some (10, true)⟩, ⟨some 15, (.call (.f n_r05_SameList) [(.t 12), (.t 14)]), some (10, true)⟩, O 16 (.pick (.t 10) (.t 15) (.c (.bool false))), M 4 16] [⟨1, (.agg [.d, .d]), 0⟩, ⟨3, (.agg [.d, .d]), 0⟩, ⟨7, (.agg [.d, .d]), 0⟩, ⟨9, (.agg [.d, .d]), 0⟩] [] [2, 3, 5, 6, 7, 8, 9, 10, 11, 12, 13, 14, 15, 16]) .ret))⟩
def t_l05_alive : TFn := ⟨0, [.tmp 0], (.seq (oQ [O 0 (.mv (.c (.bool false)))] [0]) (.seq (oQ [O 10 (.call (.f n_l05_value) [(I 0), (I 1), (I 1)]), O 11 (.call (.f n_l05_mark) [(I 0), (I 3), (I 2)]), O 12 (.buildD 8 (.agg [(.int .i64 (0)), (.int .u8 (0)), (.int .i64 (0)), (.int .i64 (0)), (.int .i64 (0)), (.int .i64 (0)), (.int .i64 (0)), (.int .i64 (0))]) 2 [(0, (.t 10)), (1, (.t 11))]), O 13 (.call (.f n_audit_Guess) [(I 2), (.t 12)]), M 9 13, O 14 (.ext (.t 9) 0), O 15 (.ext (.t 9) 1), O 1 (.allocL (.agg [.nils, .nils])), ⟨none, (.store 2 (.t 1) (.t 14)), none⟩, M 2 15] [9, 10, 11, 12, 13, 14, 15]) (.seq (oQ [O 17 (.call (.f n_l05_value) [(I 0), (I 1), (I 1)]), O 18 (.call (.f n_l05_mark) [(I 0), (I 1), (I 2)]), O 19 (.buildD 8 (.agg [(.int .i64 (0)), (.int .u8 (0)), (.int .i64 (0)), (.int .i64 (0)), (.int .i64 (0)), (.int .i64 (0)), (.int .i64 (0)), (.int .i64 (0))]) 2 [(0, (.t 17)), (1, (.t 18))]), O 20 (.call (.f n_audit_Guess) [(I 2), (.t 19)]), M 16 20, O 21 (.ext (.t 16) 0), O 22 (.ext (.t 16) 1), O 3 (.allocL (.agg [.nils, .nils])), ⟨none, (.store 2 (.t 3) (.t 21)), none⟩, M 4 22] [3, 16, 17, 18, 19, 20, 21, 22]) (.seq (oQ [O 24 (.call (.f n_l05_value) [(I 0), (I 1), (I 1)]), O 25 (.call (.f n_l05_mark) [(I 0), (I 1), (I 2)]), O 26 (.buildD 8 (.agg [(.int .i64 (0)), (.int .u8 (0)), (.int .i64 (0)), (.int .i64 (0)), (.int .i64 (0)), (.int .i64 (0)), (.int .i64 (0)), (.int .i64 (0))]) 2 [(0, (.t 24)), (1, (.t 25))]), O 27 (.call (.f n_audit_First) [(I 2), (.t 26)]), M 23 27, O 28 (.ext (.t 23) 0), O 29 (.ext (.t 23) 1), M 5 28, M 6 29] [23, 24, 25, 26, 27, 28, 29]) (.seq (oQ [O 31 (.call (.f n_l05_mark) [(I 0), (I 1), (I 2)]), O 32 (.buildD 8 (.agg [(.int .i64 (0)), (.int .u8 (0)), (.int .i64 (0)), (.int .i64 (0)), (.int .i64 (0)), (.int .i64 (0)), (.int .i64 (0)), (.int .i64 (0))]) 1 [(0, (.t 31))]), O 33 (.call (.f n_audit_Guess) [(I 2), (.t 32)]), M 30 33, O 34 (.ext (.t 30) 0), O 35 (.ext (.t 30) 1), O 7 (.allocL (.agg [.nils, .nils])), ⟨none, (.store 2 (.t 7) (.t 34)), none⟩, M 8 35] [30, 31, 32, 33, 34, 35]) (.seq (.ops [M 36 2, O 37 (.bin .eql (.t 36) (I 0)), M 38 37, ⟨some 39, (.load true 2 (.t 1)), some (38, true)⟩, ⟨some 40, (.call (.f n_l05_of) [(I 0)]), some (38, true)⟩, ⟨some 41, (.call (.f n_l05_of) [(I 1)]), some (38, true)⟩, ⟨some 42, (.call (.f n_l05_of) [(I 2)]), some (38, true)⟩, ⟨some 43, (.buildD 2 (.agg [(.int .i64 (0)), (.int .i64 (0))]) 3 [(0, (.t 40)), (1, (.t 41)), (2, (.t 42))]), some (38, true)⟩, ⟨some 44, (.call (.f n_l05_of) [(I 0)]), some (38, true)⟩, ⟨some 45, (.call (.f n_l05_of) [(I 1)]), some (38, true)⟩, ⟨some 46, (.call (.f n_l05_of) [(I 3)]), some (38, true)⟩, ⟨some 47, (.buildD 2 (.agg [(.int .i64 (0)), (.int .i64 (0))]) 3 [(0, (.t 44)), (1, (.t 45)), (2, (.t 46))]), some (38, true)⟩, ⟨some 48, (.build [.nils, .nils] [(0, 1, (.t 43)), (1, 1, (.t 47))]), some (38, true)⟩, ⟨some 49, (.call (.f n_r05_Same) [(.t 39), (.t 48)]), some (38, true)⟩, O 50 (.pick (.t 38) (.t 49) (.c (.bool false))), M 51 50, ⟨some 52, (.mv (.t 4)), some (51, true)⟩, ⟨some 53, (.bin .eql (.t 52) (I 6)), some (51, true)⟩, O 54 (.pick (.t 51) (.t 53) (.c (.bool false))), M 55 54, ⟨some 56, (.mv (.t 6)), some (55, true)⟩, ⟨some 57, (.bin .eql (.t 56) (I 0)), some (55, true)⟩, O 58 (.pick (.t 55) (.t 57) (.c (.bool false))), M 59 58, ⟨some 60, (.mv (.t 5)), some (59, true)⟩, ⟨some 61, (.bin .eql (.t 60) (I 1)), some (59, true)⟩, O 62 (.pick (.t 59) (.t 61) (.c (.bool false))), M 63 62, ⟨some 64, (.mv (.t 8)), some (63, true)⟩, ⟨some 65, (.bin .eql (.t 64) (I 0)), some (63, true)⟩, O 66 (.pick (.t 63) (.t 65) (.c (.bool false))), M 67 66, ⟨some 68, (.load true 2 (.t 7)), some (67, true)⟩, ⟨some 69, (.call (.f n_l05_of) [(I 0)]), some (67, true)⟩, ⟨some 70, (.call (.f n_l05_of) [(I 2)]), some (67, true)⟩, ⟨some 71, (.buildD 2 (.agg [(.int .i64 (0)), (.int .i64 (0))]) 2 [(0, (.t 69)), (1, (.t 70))]), some (67, true)⟩, ⟨some 72, (.call (.f n_l05_of) [(I 0)]), some (67, true)⟩, ⟨some 73, (.call (.f n_l05_of) [(I 1)]), some (67, true)⟩, ⟨some 74, (.buildD 2 (.agg [(.int .i64 (0)), (.int .i64 (0))]) 2 [(0, (.t 72)), (1, (.t 73))]), some (67, true)⟩, ⟨some 75, (.build [.nils, .nils] [(0, 1, (.t 71)), (1, 1, (.t 74))]), some (67, true)⟩, ⟨some 76, (.call (.f n_r05_Same) [(.t 68), (.t 75)]), some (67, true)⟩, O 77 (.pick (.t 67) (.t 76) (.c (.bool false))), M 0 77] [] [(3, 4), (3, 5), (3, 6), (3, 7), (3, 8), (7, 8), (3, 9), (7, 9), (3, 10), (7, 10), (3, 11), (7, 11), (3, 12), (32, 33), (32, 34), (32, 35), (32, 36), (35, 36), (32, 37), (35, 37), (32, 38), (35, 38), (32, 39)] [1, 2, 4, 5, 6, 7, 8, 36, 37, 38, 39, 40, 41, 42, 43, 44, 45, 46, 47, 48, 49, 50, 51, 52, 53, 54, 55, 56, 57, 58, 59, 60, 61, 62, 63, 64, 65, 66, 67, 68, 69, 70, 71, 72, 73, 74, 75, 76, 77]) .ret))))))⟩
def t_audit_Points : TFn := ⟨2, [.tmp 4, .tmp 5], (.seq (oQ [O 4 (.mv (.c .nils)), O 5 (.mv (I 0))] [4, 5]) (.seq (oQ [M 9 0, M 10 1, O 11 (.call (.f n_audit_claims) [(.t 9), (.t 10)]), M 8 11, O 12 (.ext (.t 8) 0), O 13 (.ext (.t 8) 1), M 6 12, M 7 13] [1, 8, 9, 10, 11, 12, 13]) (.seq (.seq (oQ [M 14 7, O 15 (.bin .neq (.t 14) (I 0))] [14]) (.cond (.t 15) (.seq (oQ [M 16 7, O 4 (.mv (.c .nils)), M 5 16] [0, 6, 7, 15, 16]) .ret) .skip)) (.seq (oQ [M 17 0, M 18 6, O 19 (.call (.f n_audit_pointsOf) [(.t 17), (.t 18)]), M 4 19, O 5 (.mv (I 0))] [0, 6, 7, 15, 17, 18, 19]) .ret))))⟩
def t_r05_Told : TFn := ⟨1, [.cell 2 true 2], (.seq (oQ [O 1 (.boxL (.t 0)), O 2 (.allocL (.agg [(.int .i64 (0)), (.int .i64 (0))]))] [0]) (.seq (.seq (.ops [O 3 (.fad 1 (.t 1)), oF 4 1 3, O 5 (.bin .eql (.t 4) (.c (.int .u8 (1))))] [⟨1, (.agg [.i .i64, .i .u8, .i .i64, .i .i64, .i .i64, .i .i64, .i .i64, .i .i64]), 0⟩] [] [3, 4]) (.cond (.t 5) (.seq (.ops [O 6 (.fad 6 (.t 1)), oT 7 2 6, ⟨none, (.store 2 (.t 2) (.t 7)), none⟩] [⟨1, (.agg [.i .i64, .i .u8, .i .i64, .i .i64, .i .i64, .i .i64, .i .i64, .i .i64]), 0⟩] [] [1, 5, 6, 7]) .ret) .skip)) (.seq (.ops [O 8 (.fad 4 (.t 1)), oT 9 2 8, ⟨none, (.store 2 (.t 2) (.t 9)), none⟩] [⟨1, (.agg [.i .i64, .i .u8, .i .i64, .i .i64, .i .i64, .i .i64, .i .i64, .i .i64]), 0⟩] [] [1, 5, 8, 9]) .ret)))⟩
def b_18745900 : TCode := (.seq (.seq (oQ [M 5 1, O 6 (.bin .neq (.t 5) (I 0))] [5]) (.cond (.t 6) .skip (.exit 0))) (.block 1 (.ops [M 7 1, M 8 0, M 9 1, oX 10 .rem 8 9, M 0 7, M 1 10] [] [(0, 1), (0, 2), (1, 2), (0, 3), (2, 4), (3, 4)] [6, 7, 8, 9, 10])))
def t_r05_gcd : TFn := ⟨2, [.tmp 4], (.seq (oQ [O 4 (.mv (I 0))] [4]) (.seq (.block 0 (.loop 18745900 b_18745900)) (.seq (oQ [M 11 0, M 4 11] [0, 1, 6, 11]) .ret)))⟩
def b_90278700 : TCode := (.seq (.seq (oQ [M 10 5, M 11 0, O 12 (.len (.t 11)), oX 13 .lss 10 12] [10, 11, 12]) (.cond (.t 13) .skip (.exit 0))) (.seq (.block 1 (.seq (.ops [M 16 0, M 17 5, O 18 (.iad 8 (.t 16) (.t 17)), oT 19 8 18, O 20 (.call (.f n_r05_Told) [(.t 19)]), O 21 (.fld false 1 1 (.t 20)), M 6 21] [⟨2, (.agg [.i .i64, .i .u8, .i .i64, .i .i64, .i .i64, .i .i64, .i .i64, .i .i64]), 0⟩, ⟨3, (.agg [.i .i64, .i .u8, .i .i64, .i .i64, .i .i64, .i .i64, .i .i64, .i .i64]), 0⟩] [] [13, 16, 17, 18, 19, 20, 21]) (.seq (oQ [M 22 4, M 23 6, O 24 (.call (.f n_r05_gcd) [(.t 22), (.t 23)]), M 7 24] [22, 23, 24]) (.seq (.seq (.ops [M 25 6, M 26 7, oX 27 .quo 25 26, M 28 4, O 29 (.bin .quo (I 1000000000) (.t 28)), oX 30 .gtr 27 29] [] [(0, 1), (0, 3), (1, 3), (2, 3), (0, 4), (1, 4), (2, 4)] [25, 26, 27, 28, 29]) (.cond (.t 30) (.seq (oQ [O 2 (.mv (I 0)), O 3 (.mv (I 16))] [0, 4, 5, 6, 7, 30]) .ret) .skip)) (oQ [M 31 4, M 32 6, M 33 7, oX 34 .quo 32 33, oX 35 .mul 31 34, M 4 35] [6, 7, 30, 31, 32, 33, 34, 35]))))) (oQ [M 14 5, O 15 (.bin .add (.t 14) (I 1)), M 5 15] [14, 15])))
def b_90278701 : TCode := (.seq (.seq (oQ [M 36 8, M 37 0, O 38 (.len (.t 37)), oX 39 .lss 36 38] [36, 37, 38]) (.cond (.t 39) .skip (.exit 2))) (.seq (.block 3 (.seq (.ops [M 42 0, M 43 8, O 44 (.iad 8 (.t 42) (.t 43)), oT 45 8 44, O 46 (.call (.f n_r05_Told) [(.t 45)]), O 9 (.allocL (.agg [(.int .i64 (0)), (.int .i64 (0))])), ⟨none, (.store 2 (.t 9) (.t 46)), none⟩] [⟨2, (.agg [.i .i64, .i .u8, .i .i64, .i .i64, .i .i64, .i .i64, .i .i64, .i .i64]), 0⟩, ⟨3, (.agg [.i .i64, .i .u8, .i .i64, .i .i64, .i .i64, .i .i64, .i .i64, .i .i64]), 0⟩] [] [39, 42, 43, 44, 45, 46]) (.seq (.ops [O 47 (.fad 0 (.t 9)), oF 48 1 47, M 49 4, O 50 (.fad 1 (.t 9)), oF 51 1 50, oX 52 .quo 49 51, O 53 (.bin .quo (I 1000000000000) (.t 52)), oX 54 .gtr 48 53] [⟨1, (.agg [.i .i64, .i .i64]), 0⟩, ⟨4, (.agg [.i .i64, .i .i64]), 0⟩] [(0, 2), (1, 2), (0, 3), (1, 3), (2, 3), (0, 4), (1, 4), (2, 4), (0, 5), (1, 5), (0, 6), (1, 6)] [9, 47, 48, 49, 50, 51, 52, 53]) (.cond (.t 54) (.seq (oQ [O 2 (.mv (I 0)), O 3 (.mv (I 16))] [0, 4, 8, 54]) .ret) .skip)))) (oQ [M 40 8, O 41 (.bin .add (.t 40) (I 1)), M 8 41] [40, 41, 54])))
def t_r05_Scale : TFn := ⟨1, [.tmp 2, .tmp 3], (.seq (oQ [O 2 (.mv (I 0)), O 3 (.mv (I 0))] [2, 3]) (.seq (oQ [O 4 (.mv (I 1))] []) (.seq (.seq (oQ [O 5 (.mv (I 0))] []) (.block 0 (.loop 90278700 b_90278700))) (.seq (.seq (oQ [O 8 (.mv (I 0))] [5, 13]) (.block 2 (.loop 90278701 b_90278701))) (.seq (oQ [M 55 4, M 2 55, O 3 (.mv (I 0))] [0, 4, 8, 39, 55]) .ret)))))⟩
def b_30944100 : TCode := (.seq (.seq (oQ [M 6 5, M 7 0, O 8 (.len (.t 7)), oX 9 .lss 6 8] [6, 7, 8]) (.cond (.t 9) .skip (.exit 0))) (.seq (.block 1 (.seq (.ops [M 12 0, M 13 5, O 14 (.iad 2 (.t 12) (.t 13)), oT 15 2 14, oT 16 2 3, O 17 (.eqA false 2 [(0, (some .i64)), (1, (some .i64))] (.t 15) (.t 16))] [⟨2, (.agg [.i .i64, .i .i64]), 0⟩, ⟨3, (.agg [.i .i64, .i .i64]), 0⟩] [(0, 1), (0, 4), (1, 4), (2, 4), (3, 4)] [9, 12, 13, 14, 15, 16]) (.cond (.t 17) (.seq (oQ [M 18 5, M 4 18] [0, 3, 5, 17, 18]) .ret) .skip))) (oQ [M 10 5, O 11 (.bin .add (.t 10) (I 1)), M 5 11] [10, 11, 17])))
def t_r05_At : TFn := ⟨2, [.tmp 4], (.seq (oQ [O 3 (.boxL (.t 1)), O 4 (.mv (I 0))] [1, 4]) (.seq (.seq (oQ [O 5 (.mv (I 0))] []) (.block 0 (.loop 30944100 b_30944100))) (.seq (oQ [O 4 (.mv (I (-1)))] [0, 3, 5, 9]) .ret)))⟩
def t_r05_To : TFn := ⟨1, [.cell 2 true 2], (.seq (oQ [O 1 (.boxL (.t 0)), O 2 (.allocL (.agg [(.int .i64 (0)), (.int .i64 (0))]))] [0]) (.seq (.seq (.ops [O 3 (.fad 1 (.t 1)), oF 4 1 3, O 5 (.bin .eql (.t 4) (.c (.int .u8 (1))))] [⟨1, (.agg [.i .i64, .i .u8, .i .i64, .i .i64, .i .i64, .i .i64, .i .i64, .i .i64]), 0⟩] [] [3, 4]) (.cond (.t 5) (.seq (.ops [O 6 (.fad 4 (.t 1)), oT 7 2 6, ⟨none, (.store 2 (.t 2) (.t 7)), none⟩] [⟨1, (.agg [.i .i64, .i .u8, .i .i64, .i .i64, .i .i64, .i .i64, .i .i64, .i .i64]), 0⟩] [] [1, 5, 6, 7]) .ret) .skip)) (.seq (.ops [O 8 (.fad 6 (.t 1)), oT 9 2 8, ⟨none, (.store 2 (.t 2) (.t 9)), none⟩] [⟨1, (.agg [.i .i64, .i .u8, .i .i64, .i .i64, .i .i64, .i .i64, .i .i64, .i .i64]), 0⟩] [] [1, 5, 8, 9]) .ret)))⟩
def b_10230700 : TCode := (.seq (.seq (oQ [M 31 9, M 32 2, O 33 (.len (.t 32)), oX 34 .lss 31 33] [31, 32, 33]) (.cond (.t 34) .skip (.exit 0))) (.seq (.block 1 (.seq (.ops [M 37 2, M 38 9, O 39 (.iad 1 (.t 37) (.t 38)), oF 40 1 39, M 41 2, M 42 9, O 43 (.bin .sub (.t 42) (I 1)), O 44 (.iad 1 (.t 41) (.t 43)), oF 45 1 44, oX 46 .lss 40 45, M 47 46, ⟨some 48, (.mv (.t 2)), some (47, false)⟩, ⟨some 49, (.mv (.t 9)), some (47, false)⟩, ⟨some 50, (.iad 1 (.t 48) (.t 49)), some (47, false)⟩, ⟨some 51, (.load false 1 (.t 50)), some (47, false)⟩, ⟨some 52, (.bin .gtr (.t 51) (I 10000000000000000)), some (47, false)⟩, O 53 (.pick (.t 47) (.c (.bool true)) (.t 52))] [⟨2, (.one (.i .i64)), 0⟩, ⟨3, (.one (.i .i64)), 0⟩, ⟨7, (.one (.i .i64)), 0⟩, ⟨8, (.one (.i .i64)), 0⟩, ⟨13, (.one (.i .i64)), 0⟩, ⟨14, (.one (.i .i64)), 0⟩] [(0, 1), (0, 4), (1, 4), (2, 4), (3, 4), (0, 5), (1, 5), (2, 5), (3, 5), (4, 5), (0, 6), (1, 6), (2, 6), (3, 6), (4, 6), (0, 7), (1, 7), (2, 7), (3, 7), (0, 8), (1, 8), (2, 8), (3, 8), (11, 12)] [34, 37, 38, 39, 40, 41, 42, 43, 44, 45, 46, 47, 48, 49, 50, 51, 52]) (.cond (.t 53) (.seq (oQ [O 8 (.mv (.c (.bool false)))] [0, 1, 2, 3, 9, 53]) .ret) .skip))) (oQ [M 35 9, O 36 (.bin .add (.t 35) (I 1)), M 9 36] [35, 36, 53])))
def b_10230701 : TCode := (.seq (.seq (oQ [M 54 10, M 55 1, O 56 (.len (.t 55)), oX 57 .lss 54 56] [54, 55, 56]) (.cond (.t 57) .skip (.exit 2))) (.seq (.block 3 (.seq (.ops [M 60 1, M 61 10, O 62 (.iad 8 (.t 60) (.t 61)), oT 63 8 62, O 11 (.allocL (.agg [(.int .i64 (0)), (.int .u8 (0)), (.int .i64 (0)), (.int .i64 (0)), (.int .i64 (0)), (.int .i64 (0)), (.int .i64 (0)), (.int .i64 (0))])), ⟨none, (.store 8 (.t 11) (.t 63)), none⟩] [⟨2, (.agg [.i .i64, .i .u8, .i .i64, .i .i64, .i .i64, .i .i64, .i .i64, .i .i64]), 0⟩, ⟨3, (.agg [.i .i64, .i .u8, .i .i64, .i .i64, .i .i64, .i .i64, .i .i64, .i .i64]), 0⟩] [] [57, 60, 61, 62, 63]) (.seq (.ops [M 64 0, O 65 (.fad 2 (.t 11)), oT 66 2 65, O 67 (.call (.f n_r05_At) [(.t 64), (.t 66)]), M 68 0, oT 69 8 11, O 70 (.call (.f n_r05_To) [(.t 69)]), O 71 (.call (.f n_r05_At) [(.t 68), (.t 70)]), oT 72 8 11, O 73 (.call (.f n_r05_Told) [(.t 72)]), O 14 (.allocL (.agg [(.int .i64 (0)), (.int .i64 (0))])), M 12 67, M 13 71, ⟨none, (.store 2 (.t 14) (.t 73)), none⟩] [⟨2, (.agg [.i .i64, .i .u8, .i .i64, .i .i64, .i .i64, .i .i64, .i .i64, .i .i64]), 0⟩] [(0, 1), (0, 2), (0, 4), (1, 4), (2, 4), (3, 4), (0, 5), (1, 5), (2, 5), (3, 5), (4, 5), (4, 6), (0, 8), (1, 8), (2, 8), (3, 8), (4, 8), (5, 8), (6, 8), (7, 8), (0, 10), (1, 10), (2, 10), (3, 10), (4, 10), (5, 10), (6, 10), (7, 10), (8, 10), (9, 10)] [64, 65, 66, 67, 68, 69, 70, 71, 72, 73]) (.seq (.seq (.ops [M 74 12, O 75 (.bin .lss (.t 74) (I 0)), M 76 75, ⟨some 77, (.mv (.t 13)), some (76, false)⟩, ⟨some 78, (.bin .lss (.t 77) (I 0)), some (76, false)⟩, O 79 (.pick (.t 76) (.c (.bool true)) (.t 78)), M 80 79, ⟨some 81, (.mv (.t 2)), some (80, false)⟩, ⟨some 82, (.mv (.t 13)), some (80, false)⟩, ⟨some 83, (.iad 1 (.t 81) (.t 82)), some (80, false)⟩, ⟨some 84, (.load false 1 (.t 83)), some (80, false)⟩, ⟨some 85, (.mv (.t 2)), some (80, false)⟩, ⟨some 86, (.mv (.t 12)), some (80, false)⟩, ⟨some 87, (.iad 1 (.t 85) (.t 86)), some (80, false)⟩, ⟨some 88, (.load false 1 (.t 87)), some (80, false)⟩, ⟨some 89, (.bin .sub (.t 84) (.t 88)), some (80, false)⟩, ⟨some 90, (.fad 0 (.t 14)), some (80, false)⟩, ⟨some 91, (.load false 1 (.t 90)), some (80, false)⟩, ⟨some 92, (.mv (.t 3)), some (80, false)⟩, ⟨some 93, (.fad 1 (.t 14)), some (80, false)⟩, ⟨some 94, (.load false 1 (.t 93)), some (80, false)⟩, ⟨some 95, (.bin .quo (.t 92) (.t 94)), some (80, false)⟩, ⟨some 96, (.bin .mul (.t 91) (.t 95)), some (80, false)⟩, ⟨some 97, (.mv (.t 0)), some (80, false)⟩, ⟨some 98, (.len (.t 97)), some (80, false)⟩, ⟨some 99, (.bin .add (.t 98) (I 1)), some (80, false)⟩, ⟨some 100, (.bin .mul (.t 96) (.t 99)), some (80, false)⟩, ⟨some 101, (.bin .neq (.t 89) (.t 100)), some (80, false)⟩, O 102 (.pick (.t 80) (.c (.bool true)) (.t 101))] [⟨9, (.one (.i .i64)), 0⟩, ⟨10, (.one (.i .i64)), 0⟩, ⟨13, (.one (.i .i64)), 0⟩, ⟨14, (.one (.i .i64)), 0⟩, ⟨17, (.agg [.i .i64, .i .i64]), 0⟩, ⟨20, (.agg [.i .i64, .i .i64]), 0⟩] [(7, 8), (7, 11), (8, 11), (9, 11), (10, 11), (7, 12), (8, 12), (9, 12), (10, 12), (11, 12), (7, 13), (8, 13), (9, 13), (10, 13), (7, 14), (8, 14), (9, 14), (10, 14), (7, 16), (8, 16), (9, 16), (10, 16), (11, 16), (12, 16), (13, 16), (14, 16), (15, 16), (7, 17), (8, 17), (9, 17), (10, 17), (11, 17), (12, 17), (13, 17), (14, 17), (15, 17), (7, 18), (8, 18), (9, 18), (10, 18), (11, 18), (12, 18), (13, 18), (14, 18), (15, 18), (16, 18), (17, 18), (7, 19), (8, 19), (9, 19), (10, 19), (11, 19), (12, 19), (13, 19), (14, 19), (15, 19), (16, 19), (17, 19), (18, 19), (7, 20), (8, 20), (9, 20), (10, 20), (11, 20), (12, 20), (13, 20), (14, 20), (15, 20), (16, 20), (17, 20), (18, 20), (7, 21), (8, 21), (9, 21), (10, 21), (11, 21), (12, 21), (13, 21), (14, 21), (15, 21), (16, 21), (17, 21), (7, 22), (8, 22), (9, 22), (10, 22), (11, 22), (12, 22), (13, 22), (14, 22), (15, 22), (7, 23), (8, 23), (9, 23), (10, 23), (11, 23), (12, 23), (13, 23), (14, 23), (15, 23), (16, 23), (17, 23), (18, 23), (19, 23), (20, 23), (21, 23), (22, 23), (7, 24), (8, 24), (9, 24), (10, 24), (11, 24), (12, 24), (13, 24), (14, 24), (15, 24), (16, 24), (17, 24), (18, 24), (19, 24), (20, 24), (21, 24), (22, 24), (7, 25), (8, 25), (9, 25), (10, 25), (11, 25), (12, 25), (13, 25), (14, 25), (15, 25), (16, 25), (17, 25), (18, 25), (19, 25), (20, 25), (21, 25), (22, 25), (7, 26), (8, 26), (9, 26), (10, 26), (11, 26), (12, 26), (13, 26), (14, 26), (15, 26)] [74, 75, 76, 77, 78, 79, 80, 81, 82, 83, 84, 85, 86, 87, 88, 89, 90, 91, 92, 93, 94, 95, 96, 97, 98, 99, 100, 101]) (.cond (.t 102) (.seq (oQ [O 8 (.mv (.c (.bool false)))] [0, 1, 2, 3, 10, 11, 12, 13, 14, 102]) .ret) .skip)) (.seq (.ops [O 103 (.fad 1 (.t 11)), oF 104 1 103, O 105 (.bin .eql (.t 104) (.c (.int .u8 (2)))), M 106 105, ⟨some 107, (.fad 0 (.t 14)), some (106, true)⟩, ⟨some 108, (.load false 1 (.t 107)), some (106, true)⟩, ⟨some 109, (.bin .eql (.t 108) (I 0)), some (106, true)⟩, ⟨some 110, (.mv (.t 109)), some (106, true)⟩, ⟨some 111, (.mv (.t 12)), some (110, true)⟩, ⟨some 112, (.mv (.t 13)), some (110, true)⟩, ⟨some 113, (.bin .neq (.t 111) (.t 112)), some (110, true)⟩, ⟨some 114, (.pick (.t 110) (.t 113) (.c (.bool false))), some (106, true)⟩, ⟨some 115, (.mv (.t 114)), some (106, true)⟩, ⟨some 116, (.fad 0 (.t 14)), some (115, false)⟩, ⟨some 117, (.load false 1 (.t 116)), some (115, false)⟩, ⟨some 118, (.bin .gtr (.t 117) (I 0)), some (115, false)⟩, ⟨some 119, (.mv (.t 118)), some (115, false)⟩, ⟨some 120, (.mv (.t 13)), some (119, true)⟩, ⟨some 121, (.bin .eql (.t 120) (I 0)), some (119, true)⟩, ⟨some 122, (.mv (.t 121)), some (119, true)⟩, ⟨some 123, (.mv (.t 2)), some (122, false)⟩, ⟨some 124, (.mv (.t 13)), some (122, false)⟩, ⟨some 125, (.iad 1 (.t 123) (.t 124)), some (122, false)⟩, ⟨some 126, (.load false 1 (.t 125)), some (122, false)⟩, ⟨some 127, (.mv (.t 2)), some (122, false)⟩, ⟨some 128, (.mv (.t 13)), some (122, false)⟩, ⟨some 129, (.bin .sub (.t 128) (I 1)), some (122, false)⟩, ⟨some 130, (.iad 1 (.t 127) (.t 129)), some (122, false)⟩, ⟨some 131, (.load false 1 (.t 130)), some (122, false)⟩, ⟨some 132, (.bin .eql (.t 126) (.t 131)), some (122, false)⟩, ⟨some 133, (.pick (.t 122) (.c (.bool true)) (.t 132)), some (119, true)⟩, ⟨some 134, (.pick (.t 119) (.t 133) (.c (.bool false))), some (115, false)⟩, ⟨some 135, (.pick (.t 115) (.c (.bool true)) (.t 134)), some (106, true)⟩, O 136 (.pick (.t 106) (.t 135) (.c (.bool false)))] [⟨1, (.agg [.i .i64, .i .u8, .i .i64, .i .i64, .i .i64, .i .i64, .i .i64, .i .i64]), 0⟩, ⟨5, (.agg [.i .i64, .i .i64]), 0⟩, ⟨14, (.agg [.i .i64, .i .i64]), 0⟩, ⟨22, (.one (.i .i64)), 0⟩, ⟨23, (.one (.i .i64)), 0⟩, ⟨27, (.one (.i .i64)), 0⟩, ⟨28, (.one (.i .i64)), 0⟩] [(8, 9), (20, 21), (20, 24), (21, 24), (22, 24), (23, 24), (20, 25), (21, 25), (22, 25), (23, 25), (24, 25), (20, 26), (21, 26), (22, 26), (23, 26), (24, 26), (20, 27), (21, 27), (22, 27), (23, 27), (20, 28), (21, 28), (22, 28), (23, 28)] [11, 12, 13, 14, 102, 103, 104, 105, 106, 107, 108, 109, 110, 111, 112, 113, 114, 115, 116, 117, 118, 119, 120, 121, 122, 123, 124, 125, 126, 127, 128, 129, 130, 131, 132, 133, 134, 135]) (.cond (.t 136) (.seq (oQ [O 8 (.mv (.c (.bool false)))] [0, 1, 2, 3, 10, 136]) .ret) .skip)))))) (oQ [M 58 10, O 59 (.bin .add (.t 58) (I 1)), M 10 59] [58, 59, 136])))
def t_l05_obeyed : TFn := ⟨4, [.tmp 8], (.seq (oQ [O 8 (.mv (.c (.bool false)))] [8]) (.seq (.seq (.ops [M 15 2, O 16 (.len (.t 15)), M 17 0, O 18 (.len (.t 17)), oX 19 .neq 16 18, M 20 19, ⟨some 21, (.mv (.t 2)), some (20, false)⟩, ⟨some 22, (.len (.t 21)), some (20, false)⟩, ⟨some 23, (.bin .eql (.t 22) (I 0)), some (20, false)⟩, O 24 (.pick (.t 20) (.c (.bool true)) (.t 23)), M 25 24, ⟨some 26, (.mv (.t 2)), some (25, false)⟩, ⟨some 27, (.iad 1 (.t 26) (I 0)), some (25, false)⟩, ⟨some 28, (.load false 1 (.t 27)), some (25, false)⟩, ⟨some 29, (.bin .neq (.t 28) (I 0)), some (25, false)⟩, O 30 (.pick (.t 25) (.c (.bool true)) (.t 29))] [⟨12, (.one (.i .i64)), 0⟩, ⟨13, (.one (.i .i64)), 0⟩] [] [15, 16, 17, 18, 19, 20, 21, 22, 23, 24, 25, 26, 27, 28, 29]) (.cond (.t 30) (.seq (oQ [O 8 (.mv (.c (.bool false)))] [0, 1, 2, 3, 30]) .ret) .skip)) (.seq (.seq (oQ [O 9 (.mv (I 1))] [30]) (.block 0 (.loop 10230700 b_10230700))) (.seq (.seq (oQ [O 10 (.mv (I 0))] [9, 34]) (.block 2 (.loop 10230701 b_10230701))) (.seq (oQ [O 8 (.mv (.c (.bool true)))] [0, 1, 2, 3, 10, 57]) .ret)))))⟩
def t_r01_made : TFn := ⟨3, [.cell 6 true 2, .tmp 7], (.seq (oQ [O 4 (.boxL (.t 1)), O 5 (.boxL (.t 2)), O 6 (.allocL (.agg [(.int .i64 (0)), (.int .i64 (0))])), O 7 (.mv (I 0))] [1, 2, 7]) (.seq (.seq (.ops [O 9 (.fad 0 (.t 4)), oF 10 1 9, O 11 (.bin .gtr (.t 10) (.c (.int .u64 (0)))), M 12 11, ⟨some 13, (.fad 0 (.t 5)), some (12, false)⟩, ⟨some 14, (.load false 1 (.t 13)), some (12, false)⟩, ⟨some 15, (.bin .gtr (.t 14) (.c (.int .u64 (0)))), some (12, false)⟩, O 16 (.pick (.t 12) (.c (.bool true)) (.t 15)), M 17 16, ⟨some 18, (.fad 1 (.t 4)), some (17, false)⟩, ⟨some 19, (.load false 1 (.t 18)), some (17, false)⟩, ⟨some 20, (.bin .gtr (.t 19) (.c (.int .u64 (1000000000000000000)))), some (17, false)⟩, O 21 (.pick (.t 17) (.c (.bool true)) (.t 20)), M 22 21, ⟨some 23, (.fad 1 (.t 5)), some (22, false)⟩, ⟨some 24, (.load false 1 (.t 23)), some (22, false)⟩, ⟨some 25, (.bin .gtr (.t 24) (.c (.int .u64 (1000000000000000000)))), some (22, false)⟩, O 26 (.pick (.t 22) (.c (.bool true)) (.t 25))] [⟨1, (.agg [.i .u64, .i .u64]), 0⟩, ⟨5, (.agg [.i .u64, .i .u64]), 0⟩, ⟨10, (.agg [.i .u64, .i .u64]), 0⟩, ⟨15, (.agg [.i .u64, .i .u64]), 0⟩] [] [9, 10, 11, 12, 13, 14, 15, 16, 17, 18, 19, 20, 21, 22, 23, 24, 25]) (.cond (.t 26) (.seq (oQ [O 27 (.build [(.int .i64 (0)), (.int .i64 (0))] []), ⟨none, (.store 2 (.t 6) (.t 27)), none⟩, O 7 (.mv (I 16))] [0, 4, 5, 26, 27]) .ret) .skip)) (.seq (.ops [O 28 (.fad 1 (.t 4)), oF 29 1 28, O 30 (.conv .i64 (.t 29)), O 31 (.fad 1 (.t 5)), oF 32 1 31, O 33 (.conv .i64 (.t 32)), O 34 (.build [(.int .i64 (0)), (.int .i64 (0))] [(0, 1, (.t 30)), (1, 1, (.t 33))]), O 8 (.allocL (.agg [(.int .i64 (0)), (.int .i64 (0))])), ⟨none, (.store 2 (.t 8) (.t 34)), none⟩] [⟨1, (.agg [.i .u64, .i .u64]), 0⟩, ⟨4, (.agg [.i .u64, .i .u64]), 0⟩] [] [4, 5, 26, 28, 29, 30, 31, 32, 33, 34]) (.seq (.seq (oQ [M 35 0] [0]) (.cond (.t 35) (.ops [O 36 (.fad 0 (.t 8)), oF 37 1 36, O 38 (.un .neg (.t 37)), O 39 (.fad 0 (.t 8)), ⟨none, (.store 1 (.t 39) (.t 38)), none⟩] [⟨1, (.agg [.i .i64, .i .i64]), 0⟩, ⟨4, (.agg [.i .i64, .i .i64]), 0⟩] [] [35, 36, 37, 38, 39]) .skip)) (.seq (oQ [oT 40 2 8, ⟨none, (.store 2 (.t 6) (.t 40)), none⟩, O 7 (.mv (I 0))] [8, 35, 40]) .ret)))))⟩
def t_r01_Make : TFn := ⟨2, [.cell 4 true 2, .tmp 5], (.seq (oQ [O 4 (.allocL (.agg [(.int .i64 (0)), (.int .i64 (0))])), O 5 (.mv (I 0))] [5]) (.seq (.seq (oQ [M 9 1, O 10 (.bin .eql (.t 9) (I 0))] [9]) (.cond (.t 10) (.seq (oQ [O 11 (.build [(.int .i64 (0)), (.int .i64 (0))] []), ⟨none, (.store 2 (.t 4) (.t 11)), none⟩, O 5 (.mv (I 18))] [0, 1, 10, 11]) .ret) .skip)) (.seq (oQ [M 12 0, O 13 (.call (.f n_r01_abs) [(.t 12)]), M 14 1, O 15 (.call (.f n_r01_abs) [(.t 14)]), M 6 13, M 7 15] [10, 12, 13, 14, 15]) (.seq (oQ [M 16 6, M 17 7, O 18 (.call (.f n_r01_gcd) [(.t 16), (.t 17)]), M 8 18] [16, 17, 18]) (.seq (.ops [M 19 0, O 20 (.bin .lss (.t 19) (I 0)), M 21 1, O 22 (.bin .lss (.t 21) (I 0)), O 23 (.eqB true (.t 20) (.t 22)), M 24 6, M 25 8, oX 26 .quo 24 25, O 27 (.build [(.int .u64 (0)), (.int .u64 (0))] [(1, 1, (.t 26))]), M 28 7, M 29 8, oX 30 .quo 28 29, O 31 (.build [(.int .u64 (0)), (.int .u64 (0))] [(1, 1, (.t 30))]), O 32 (.call (.f n_r01_made) [(.t 23), (.t 27), (.t 31)]), O 33 (.ext (.t 32) 0), O 34 (.ext (.t 32) 1), ⟨none, (.store 2 (.t 4) (.t 33)), none⟩, M 5 34] [] [(0, 2), (1, 2), (0, 3), (1, 3), (0, 5), (1, 5), (2, 5), (3, 5), (4, 5), (0, 6), (1, 6), (2, 6), (3, 6), (4, 6), (5, 6), (0, 7), (1, 7), (2, 7), (3, 7), (4, 7), (0, 8), (1, 8), (2, 8), (3, 8), (4, 8), (0, 9), (1, 9), (2, 9), (3, 9), (4, 9), (5, 9), (6, 9), (7, 9), (8, 9), (0, 10), (1, 10), (2, 10), (3, 10), (4, 10), (5, 10), (6, 10), (7, 10), (8, 10), (9, 10), (0, 11), (1, 11), (2, 11), (3, 11), (4, 11), (5, 11), (6, 11), (7, 11), (8, 11), (0, 12), (1, 12), (2, 12), (3, 12), (4, 12), (5, 12), (6, 12), (7, 12), (8, 12), (14, 15)] [0, 1, 6, 7, 8, 19, 20, 21, 22, 23, 24, 25, 26, 27, 28, 29, 30, 31, 32, 33, 34]) .ret)))))⟩
def b_54984600 : TCode := (.seq (.seq (oQ [M 66 13, M 67 7, O 68 (.len (.t 67)), oX 69 .lss 66 68] [66, 67, 68]) (.cond (.t 69) .skip (.exit 0))) (.seq (.block 1 (.seq (.ops [M 73 2, M 74 13, O 75 (.iad 1 (.t 73) (.t 74)), oF 76 1 75, M 77 9, M 78 7, O 79 (.len (.t 78)), O 80 (.bin .add (.t 79) (I 1)), oX 81 .mul 77 80, O 82 (.call (.f n_r01_Make) [(.t 76), (.t 81)]), M 72 82, O 83 (.ext (.t 72) 0), O 84 (.ext (.t 72) 1), O 14 (.allocL (.agg [(.int .i64 (0)), (.int .i64 (0))])), ⟨none, (.store 2 (.t 14) (.t 83)), none⟩, M 15 84] [⟨2, (.one (.i .i64)), 0⟩, ⟨3, (.one (.i .i64)), 0⟩] [] [69, 72, 73, 74, 75, 76, 77, 78, 79, 80, 81, 82, 83, 84]) (.seq (.ops [M 85 15, O 86 (.bin .eql (.t 85) (I 0)), M 87 86, ⟨some 88, (.fad 1 (.t 11)), some (87, true)⟩, ⟨some 89, (.load false 1 (.t 88)), some (87, true)⟩, ⟨some 90, (.mv (.t 13)), some (87, true)⟩, ⟨some 91, (.iad 2 (.t 89) (.t 90)), some (87, true)⟩, ⟨some 92, (.load true 2 (.t 91)), some (87, true)⟩, ⟨some 93, (.call (.f n_r01_Check) [(.t 92)]), some (87, true)⟩, ⟨some 94, (.bin .neq (.t 93) (I 0)), some (87, true)⟩, O 95 (.pick (.t 87) (.t 94) (.c (.bool false))), M 96 95, ⟨some 97, (.mv (.t 15)), some (96, false)⟩, ⟨some 98, (.bin .eql (.t 97) (I 0)), some (96, false)⟩, ⟨some 99, (.mv (.t 98)), some (96, false)⟩, ⟨some 100, (.load true 2 (.t 14)), some (99, true)⟩, ⟨some 101, (.fad 1 (.t 11)), some (99, true)⟩, ⟨some 102, (.load false 1 (.t 101)), some (99, true)⟩, ⟨some 103, (.mv (.t 13)), some (99, true)⟩, ⟨some 104, (.iad 2 (.t 102) (.t 103)), some (99, true)⟩, ⟨some 105, (.load true 2 (.t 104)), some (99, true)⟩, ⟨some 106, (.call (.f n_r01_Less) [(.t 100), (.t 105)]), some (99, true)⟩, ⟨some 107, (.pick (.t 99) (.t 106) (.c (.bool false))), some (96, false)⟩, O 108 (.pick (.t 96) (.c (.bool true)) (.t 107))] [⟨4, (.agg [.d, .d]), 0⟩, ⟨6, (.agg [.i .i64, .i .i64]), 0⟩, ⟨7, (.agg [.i .i64, .i .i64]), 0⟩, ⟨17, (.agg [.d, .d]), 0⟩, ⟨19, (.agg [.i .i64, .i .i64]), 0⟩, ⟨20, (.agg [.i .i64, .i .i64]), 0⟩] [(3, 5), (4, 5), (15, 16), (15, 17), (15, 18), (16, 18), (17, 18), (15, 19), (15, 20)] [14, 15, 85, 86, 87, 88, 89, 90, 91, 92, 93, 94, 95, 96, 97, 98, 99, 100, 101, 102, 103, 104, 105, 106, 107]) (.cond (.t 108) (.seq (oQ [O 6 (.mv (.c (.bool false)))] [2, 7, 9, 11, 13, 108]) .ret) .skip)))) (oQ [M 70 13, O 71 (.bin .add (.t 70) (I 1)), M 13 71] [70, 71, 108])))
def t_l05_AuditLeast : TFn := ⟨3, [.tmp 6], (.seq (oQ [O 6 (.mv (.c (.bool false)))] [6]) (.seq (.seq (oQ [M 16 0, M 17 1, O 18 (.call (.f n_l05_valid) [(.t 16), (.t 17)]), O 19 (.un .not (.t 18)), M 20 19, ⟨some 21, (.mv (.t 2)), some (20, false)⟩, ⟨some 22, (.len (.t 21)), some (20, false)⟩, ⟨some 23, (.bin .gtr (.t 22) (I 60)), some (20, false)⟩, O 24 (.pick (.t 20) (.c (.bool true)) (.t 23))] [16, 17, 18, 19, 20, 21, 22, 23]) (.cond (.t 24) (.seq (oQ [O 25 (.call (.f n_l05_alive) []), M 6 25] [0, 1, 2, 24, 25]) .ret) .skip)) (.seq (oQ [M 27 0, M 28 1, O 29 (.call (.f n_audit_Points) [(.t 27), (.t 28)]), M 26 29, O 30 (.ext (.t 26) 0), O 31 (.ext (.t 26) 1), M 7 30, M 8 31] [24, 26, 27, 28, 29, 30, 31]) (.seq (oQ [M 33 1, O 34 (.call (.f n_r05_Scale) [(.t 33)]), M 32 34, O 35 (.ext (.t 32) 0), O 36 (.ext (.t 32) 1), M 9 35, M 10 36] [32, 33, 34, 35, 36]) (.seq (.seq (oQ [M 37 8, O 38 (.bin .neq (.t 37) (I 0))] [8, 37]) (.cond (.t 38) (.seq (oQ [O 6 (.mv (.c (.bool false)))] [0, 1, 2, 7, 9, 10, 38]) .ret) .skip)) (.seq (.seq (oQ [M 39 10, O 40 (.bin .neq (.t 39) (I 0)), M 41 40, ⟨some 42, (.mv (.t 7)), some (41, false)⟩, ⟨some 43, (.mv (.t 1)), some (41, false)⟩, ⟨some 44, (.mv (.t 2)), some (41, false)⟩, ⟨some 45, (.mv (.t 9)), some (41, false)⟩, ⟨some 46, (.call (.f n_l05_obeyed) [(.t 42), (.t 43), (.t 44), (.t 45)]), some (41, false)⟩, ⟨some 47, (.un .not (.t 46)), some (41, false)⟩, O 48 (.pick (.t 41) (.c (.bool true)) (.t 47))] [10, 38, 39, 40, 41, 42, 43, 44, 45, 46, 47]) (.cond (.t 48) (.seq (oQ [O 49 (.call (.f n_l05_alive) []), M 6 49] [0, 1, 2, 7, 9, 48, 49]) .ret) .skip)) (.seq (oQ [M 51 0, M 52 1, O 53 (.call (.f n_audit_Guess) [(.t 51), (.t 52)]), M 50 53, O 54 (.ext (.t 50) 0), O 55 (.ext (.t 50) 1), O 11 (.allocL (.agg [.nils, .nils])), ⟨none, (.store 2 (.t 11) (.t 54)), none⟩, M 12 55] [0, 1, 48, 50, 51, 52, 53, 54, 55]) (.seq (.seq (.ops [M 56 12, O 57 (.bin .neq (.t 56) (I 0)), M 58 57, ⟨some 59, (.fad 1 (.t 11)), some (58, false)⟩, ⟨some 60, (.load false 1 (.t 59)), some (58, false)⟩, ⟨some 61, (.len (.t 60)), some (58, false)⟩, ⟨some 62, (.mv (.t 7)), some (58, false)⟩, ⟨some 63, (.len (.t 62)), some (58, false)⟩, ⟨some 64, (.bin .neq (.t 61) (.t 63)), some (58, false)⟩, O 65 (.pick (.t 58) (.c (.bool true)) (.t 64))] [⟨4, (.agg [.d, .d]), 0⟩] [] [12, 56, 57, 58, 59, 60, 61, 62, 63, 64]) (.cond (.t 65) (.seq (oQ [O 6 (.mv (.c (.bool false)))] [2, 7, 9, 11, 65]) .ret) .skip)) (.seq (.seq (oQ [O 13 (.mv (I 0))] [65]) (.block 0 (.loop 54984600 b_54984600))) (.seq (oQ [O 109 (.call (.f n_l05_alive) []), M 6 109] [2, 7, 9, 11, 13, 69, 109]) .ret))))))))))⟩
def tab : List (Nat × AFn) := [(n_r05_Great, t_r05_Great.fn), (n_r01_abs, t_r01_abs.fn), (n_r01_gcd, t_r01_gcd.fn), (n_r01_Check, t_r01_Check.fn), (n_r01_Both, t_r01_Both.fn), (n_r01_Of, t_r01_Of.fn), (n_r01_times, t_r01_times.fn), (n_r01_less, t_r01_less.fn), (n_r01_Less, t_r01_Less.fn), (n_r02_Point, t_r02_Point.fn), (n_r05_right, t_r05_right.fn), (n_r05_Check, t_r05_Check.fn), (n_l05_valid, t_l05_valid.fn), (n_l05_of, t_l05_of.fn), (n_l05_value, t_l05_value.fn), (n_l05_mark, t_l05_mark.fn), (n_ratio_size, t_ratio_size.fn), (n_ratio_gcd, t_ratio_gcd.fn), (n_ratio_Check, t_ratio_Check.fn), (n_cmp_Or_api_Errno, t_cmp_Or_api_Errno.fn), (n_ratio_check, t_ratio_check.fn), (n_cmp_isNaN_int64, t_cmp_isNaN_int64.fn), (n_cmp_Compare_int64, t_cmp_Compare_int64.fn), (n_m_Mul64, t_m_Mul64.fn), (n_cmp_isNaN_uint64, t_cmp_isNaN_uint64.fn), (n_cmp_Compare_uint64, t_cmp_Compare_uint64.fn), (n_cmp_Or_int, t_cmp_Or_int.fn), (n_ratio_Cmp, t_ratio_Cmp.fn), (n_audit_order, t_audit_order.fn), (n_audit_whole, t_audit_whole.fn), (n_audit_claimed, t_audit_claimed.fn), (n_audit_claims, t_audit_claims.fn), (n_audit_scale, t_audit_scale.fn), (n_m_Len32, t_m_Len32.fn), (n_m_Len64, t_m_Len64.fn), (n_m_Len, t_m_Len.fn), (n_slices_insertionSortCmpFunc_api_Ratio, t_slices_insertionSortCmpFunc_api_Ratio.fn), (n_slices_pdqsortCmpFunc_api_Ratio, t_slices_pdqsortCmpFunc_api_Ratio.fn), (n_s_SortFunc_api_Ratio_api_Ratio, t_s_SortFunc_api_Ratio_api_Ratio.fn), (n_s_Compact_api_Ratio_api_Ratio, t_s_Compact_api_Ratio_api_Ratio.fn), (n_audit_pointsOf, t_audit_pointsOf.fn), (n_s_BinarySearchFunc_api_Ratio_api_Ratio_api_Ratio, t_s_BinarySearchFunc_api_Ratio_api_Ratio_api_Ratio.fn), (n_audit_heights_1, t_audit_heights_1.fn), (n_s_Clone_int64_int64, t_s_Clone_int64_int64.fn), (n_s_Equal_int64_int64, t_s_Equal_int64_int64.fn), (n_audit_heights, t_audit_heights.fn), (n_ratio_signed, t_ratio_signed.fn), (n_ratio_Make, t_ratio_Make.fn), (n_audit_Guess, t_audit_Guess.fn), (n_audit_First, t_audit_First.fn), (n_r05_SameList, t_r05_SameList.fn), (n_r05_Same, t_r05_Same.fn), (n_l05_alive, t_l05_alive.fn), (n_audit_Points, t_audit_Points.fn), (n_r05_Told, t_r05_Told.fn), (n_r05_gcd, t_r05_gcd.fn), (n_r05_Scale, t_r05_Scale.fn), (n_r05_At, t_r05_At.fn), (n_r05_To, t_r05_To.fn), (n_l05_obeyed, t_l05_obeyed.fn), (n_r01_made, t_r01_made.fn), (n_r01_Make, t_r01_Make.fn), (n_l05_AuditLeast, t_l05_AuditLeast.fn)]
def quiL : List Nat := [n_r05_Great, n_r01_abs, n_r01_gcd, n_r01_Check, n_r01_Both, n_r01_Of, n_r01_times, n_r01_less, n_r01_Less, n_r02_Point, n_r05_right, n_r05_Check, n_l05_valid, n_l05_of, n_l05_value, n_l05_mark, n_ratio_size, n_ratio_gcd, n_ratio_Check, n_cmp_Or_api_Errno, n_ratio_check, n_cmp_isNaN_int64, n_cmp_Compare_int64, n_m_Mul64, n_cmp_isNaN_uint64, n_cmp_Compare_uint64, n_cmp_Or_int, n_ratio_Cmp, n_audit_order, n_audit_whole, n_audit_claimed, n_audit_claims, n_audit_scale, n_m_Len32, n_m_Len64, n_m_Len, n_audit_pointsOf, n_s_Equal_int64_int64, n_audit_heights, n_ratio_signed, n_ratio_Make, n_audit_Guess, n_audit_First, n_r05_SameList, n_r05_Same, n_l05_alive, n_audit_Points, n_r05_Told, n_r05_gcd, n_r05_Scale, n_r05_At, n_r05_To, n_l05_obeyed, n_r01_made, n_r01_Make, n_l05_AuditLeast, n_m_Add64, n_m_Sub64, (n_audit_heights + 1000000)]
def cloL : Clones := []
def gloL : List (Nat × PV) := []
def E (ef : List (Nat × EffF)) : Env := baseS n_m_Add64 n_m_Sub64 tab quiL cloL gloL ef
def E0C : Env := baseC n_m_Add64 n_m_Sub64 tab quiL cloL gloL
abbrev srt_audit_order : Srts := rtSrt n_s_SortFunc_api_Ratio_api_Ratio n_audit_order
def effNums : List Nat := [n_s_SortFunc_api_Ratio_api_Ratio, n_s_Clone_int64_int64]
abbrev EG (e : List (Nat × EffF)) : Prop := EffG E effNums e
theorem effG_nil : EG [] := ⟨fun _ _ _ _ h => (by cases h), fun _ _ _ _ => rfl⟩
def ef0 : List (Nat × EffF) := [(n_s_SortFunc_api_Ratio_api_Ratio, srtEff srt_audit_order.s srt_audit_order.srt), (n_s_Clone_int64_int64, clnDEff n_s_Clone_int64_int64 1 8)]
theorem effG0 : EG ef0 := ⟨baseS_eff (by kernel_rfl), fun n h xs H => lookE_none (l := ef0) h⟩
end Go.Pf.Vc
namespace Go.Pf.Vc
open Go Go.Pf
set_option maxRecDepth 100000
abbrev T_ratio_size : Type := Int → (Int → Prop) → Prop
def wv_ratio_size (p0 : Int) (K : Int → Prop) : Prop :=
 (cbr (decide (p0 < (0 : Int)))
 (K (IntKind.u64.wrap ((0 : Int) - (IntKind.u64.wrap p0))))
 (K (IntKind.u64.wrap p0)))
def w_ratio_size (p0 : Int) (K : Int → Prop) : Prop := wv_ratio_size p0 K
def pw_ratio_size (w : T_ratio_size) (as : List PV) (K : PV → Prop) : Prop :=
 match as with
 | [(.int .i64 p0)] => w p0 (fun r0 => K (.int .u64 r0))
 | _ => False
def wp_ratio_size (as : List PV) (K : PV → Prop) : Prop := pw_ratio_size w_ratio_size as K
def lp_ratio_size : LP := fun _ _ _ _ =>
 False
def S0_ratio_size (e : List (Nat × EffF)) : SE := ⟨(E e), lookS [], lookI [], lp_ratio_size⟩
theorem se0_ratio_size (e : List (Nat × EffF)) (he : EG e) : SEOk (S0_ratio_size e) := seOk_of trivial trivial he.ok
theorem eq_ratio_size (e : List (Nat × EffF)) ( p0 K) : WP (S0_ratio_size e) 6 t_ratio_size [(.int .i64 p0)] K = wv_ratio_size p0 (fun r0 => K (.int .u64 r0)) := by kernel_rfl
theorem ok_ratio_size (e : List (Nat × EffF)) (he : EG e) : OkF (E e) wp_ratio_size n_ratio_size := by
 intro as K h
 unfold wp_ratio_size pw_ratio_size at h
 split at h
 · exact WP_ok (se0_ratio_size e he) (LpOk_no (by kernel_rfl)) (by kernel_rfl) (by kernel_rfl) (fun _ => baseS_none (by kernel_rfl) _) (he.num _ (by kernel_rfl)) ((eq_ratio_size ..).mpr h)
 · exact h.elim
abbrev T_ratio_gcd : Type := Int → Int → (Int → Prop) → Prop
def L_ratio_gcd_0_0 (x0 : Int → Int → Bool → Prop) : Nat → Int → Int → Prop
 | 0, _, _ => False
 | n + 1, i0, i1 =>
 (cbr (decide (i1 > (0 : Int)))
 (asr (!(decide (i1 = (0 : Int))))
 (L_ratio_gcd_0_0 x0 n i1 (Int.tmod i0 i1)))
 (x0 i0 i1 false))
def wv_ratio_gcd (p0 p1 : Int) (K : Int → Prop) : Prop :=
 (∃ n : Nat, L_ratio_gcd_0_0
 (fun yi0 _ _ => (K yi0))
 n p0 p1)
def w_ratio_gcd (p0 p1 : Int) (K : Int → Prop) : Prop := wv_ratio_gcd p0 p1 K
def pw_ratio_gcd (w : T_ratio_gcd) (as : List PV) (K : PV → Prop) : Prop :=
 match as with
 | [(.int .u64 p0), (.int .u64 p1)] => w p0 p1 (fun r0 => K (.int .u64 r0))
 | _ => False
def wp_ratio_gcd (as : List PV) (K : PV → Prop) : Prop := pw_ratio_gcd w_ratio_gcd as K
def D_ratio_gcd_0 (F : Frm) (H : Hp) (A0 : Int → Int → Prop) : Prop :=
 match F, H with
 | [(0, .v (.int .u64 i0)), (1, .v (.int .u64 i1))], [] => (A0 i0 i1)
 | _, _ => False
def X_ratio_gcd_0_0 (Q : Ex → Frm → Hp → Prop) : Int → Int → Bool → Prop := (fun i0 i1 b2 => Q (.exit 0) [(0, .v (.int .u64 i0)), (1, .v (.int .u64 i1)), (6, .v (.bool b2))] [])
def R_ratio_gcd_0 (Q : Ex → Frm → Hp → Prop) (n : Nat) (F : Frm) (H : Hp) : Prop := D_ratio_gcd_0 F H (fun i0 i1 => L_ratio_gcd_0_0 (X_ratio_gcd_0_0 Q) n i0 i1)
def lp_ratio_gcd : LP := fun id F H Q =>
 bif Nat.beq id 32725300 then D_ratio_gcd_0 F H (fun i0 i1 => ∃ n : Nat, L_ratio_gcd_0_0 (X_ratio_gcd_0_0 Q) n i0 i1) else
 False
def S0_ratio_gcd (e : List (Nat × EffF)) : SE := ⟨(E e), lookS [], lookI [], lp_ratio_gcd⟩
theorem se0_ratio_gcd (e : List (Nat × EffF)) (he : EG e) : SEOk (S0_ratio_gcd e) := seOk_of trivial trivial he.ok
theorem body_ratio_gcd_0_0 (e : List (Nat × EffF)) ( Q n i0 i1) : WC (E e) (callW (S0_ratio_gcd e) 5) (lp_ratio_gcd) b_32725300 [(0, .v (.int .u64 i0)), (1, .v (.int .u64 i1))] [] (fun x F' H' => match x with | .norm => R_ratio_gcd_0 Q n F' H' | .exit i => Q (.exit i) F' H' | .ret => Q .ret F' H') = L_ratio_gcd_0_0 (X_ratio_gcd_0_0 Q) (n + 1) i0 i1 := by kernel_rfl
theorem lpb_ratio_gcd_0 (e : List (Nat × EffF)) (_ : EG e) : LpOk (E e) (lp_ratio_gcd) b_32725300 := (LpOk_no (by kernel_rfl))
theorem loop_ratio_gcd_0 (e : List (Nat × EffF)) (he : EG e) : ∀ F H Q, lp_ratio_gcd 32725300 F H Q → LoopT (E e) b_32725300 F H Q := by
 intro F H Q h
 have go := LoopT.intro (callW_ok (se0_ratio_gcd e he) 5) (lpb_ratio_gcd_0 e he) (R_ratio_gcd_0 Q) (by
   intro F H h
   unfold R_ratio_gcd_0 D_ratio_gcd_0 at h
   split at h
   · exact h
   · exact h) (by
   intro n F H h
   unfold R_ratio_gcd_0 D_ratio_gcd_0 at h
   split at h
   · exact (body_ratio_gcd_0_0 ..).mpr h
   · exact h.elim)
 have h : D_ratio_gcd_0 F H _ := h
 unfold D_ratio_gcd_0 at h
 split at h
 · obtain ⟨n, h⟩ := h; exact go n _ _ h
 · exact h.elim
theorem eq_ratio_gcd (e : List (Nat × EffF)) ( p0 p1 K) : WP (S0_ratio_gcd e) 6 t_ratio_gcd [(.int .u64 p0), (.int .u64 p1)] K = wv_ratio_gcd p0 p1 (fun r0 => K (.int .u64 r0)) := by kernel_rfl
theorem ok_ratio_gcd (e : List (Nat × EffF)) (he : EG e) : OkF (E e) wp_ratio_gcd n_ratio_gcd := by
 intro as K h
 unfold wp_ratio_gcd pw_ratio_gcd at h
 split at h
 · exact WP_ok (se0_ratio_gcd e he) (LpOk_by (l := [(32725300, b_32725300)]) ⟨loop_ratio_gcd_0 e he, trivial⟩ (by kernel_rfl)) (by kernel_rfl) (by kernel_rfl) (fun _ => baseS_none (by kernel_rfl) _) (he.num _ (by kernel_rfl)) ((eq_ratio_gcd ..).mpr h)
 · exact h.elim
abbrev T_ratio_Check : Type := Int → Int → (Int → Prop) → Prop
def wv_ratio_Check (a0 : T_ratio_size) (a1 : T_ratio_gcd) (p0 p1 : Int) (K : Int → Prop) : Prop :=
 (cbr (decide (p1 < (1 : Int)))
 (K (8 : Int))
 (a0 p0 (fun yi0 => 
 (cbr (decide ((if (IntKind.u64.wrap p1) > yi0 then (IntKind.u64.wrap p1) else yi0) > (1000000000000000000 : Int)))
 (K (8 : Int))
 (a0 p0 (fun yi1 => 
 (a1 yi1 (IntKind.u64.wrap p1) (fun yi2 => 
 (cbr (decide (yi2 > (1 : Int)))
 (K (8 : Int))
 (K (0 : Int)))))))))))
def w_ratio_Check (p0 p1 : Int) (K : Int → Prop) : Prop := wv_ratio_Check w_ratio_size w_ratio_gcd p0 p1 K
def pw_ratio_Check (w : T_ratio_Check) (as : List PV) (K : PV → Prop) : Prop :=
 match as with
 | [(.agg [(.int .i64 p0), (.int .i64 p1)])] => w p0 p1 (fun r0 => K (.int .i64 r0))
 | _ => False
def wp_ratio_Check (as : List PV) (K : PV → Prop) : Prop := pw_ratio_Check w_ratio_Check as K
def lp_ratio_Check (_ : T_ratio_size) (_ : T_ratio_gcd) : LP := fun _ _ _ _ =>
 False
def S0_ratio_Check (e : List (Nat × EffF)) (a0 : T_ratio_size) (a1 : T_ratio_gcd) : SE := ⟨(E e), lookS [(n_ratio_size, pw_ratio_size a0), (n_ratio_gcd, pw_ratio_gcd a1)], lookI [], lp_ratio_Check a0 a1⟩
theorem se0_ratio_Check (e : List (Nat × EffF)) (he : EG e) : SEOk (S0_ratio_Check e w_ratio_size w_ratio_gcd) := seOk_of ⟨(ok_ratio_size e he), (ok_ratio_gcd e he), trivial⟩ trivial he.ok
theorem eq_ratio_Check (e : List (Nat × EffF)) (a0 a1 p0 p1 K) : WP (S0_ratio_Check e a0 a1) 6 t_ratio_Check [(.agg [(.int .i64 p0), (.int .i64 p1)])] K = wv_ratio_Check a0 a1 p0 p1 (fun r0 => K (.int .i64 r0)) := by kernel_rfl
theorem ok_ratio_Check (e : List (Nat × EffF)) (he : EG e) : OkF (E e) wp_ratio_Check n_ratio_Check := by
 intro as K h
 unfold wp_ratio_Check pw_ratio_Check at h
 split at h
 · exact WP_ok (se0_ratio_Check e he) (LpOk_no (by kernel_rfl)) (by kernel_rfl) (by kernel_rfl) (fun _ => baseS_none (by kernel_rfl) _) (he.num _ (by kernel_rfl)) ((eq_ratio_Check ..).mpr h)
 · exact h.elim
abbrev T_cmp_Or_api_Errno : Type := List PV → (Int → Prop) → Prop
def L_cmp_Or_api_Errno_0_0 (x0 : Int → Prop) (x1 : Int → List PV → Int → Int → Bool → Prop) : Nat → Int → List PV → Int → Int → Prop
 | 0, _, _, _, _ => False
 | n + 1, i0, l1, i2, i3 =>
 (cbr (decide (i3 < i2))
 (asr (decide ((0 : Int) ≤ i3))
 (asr (decide (i3 < (((List.length l1) : Nat) : Int)))
 (asr (conf (.one (.i .i64)) (List.getD l1 (i3.toNat) .nils))
 (cbr ((intOfV (List.getD l1 (i3.toNat) .nils)) != i0)
 (x0 (intOfV (List.getD l1 (i3.toNat) .nils)))
 (L_cmp_Or_api_Errno_0_0 x0 x1 n i0 l1 i2 (IntKind.i64.wrap (i3 + (1 : Int))))))))
 (x1 i0 l1 i2 i3 false))
def wv_cmp_Or_api_Errno (p0 : List PV) (K : Int → Prop) : Prop :=
 (∃ n : Nat, L_cmp_Or_api_Errno_0_0
 (fun yi0 => (K yi0))
 (fun yi1 _ _ _ _ => (K yi1))
 n (0 : Int) p0 (((List.length p0) : Nat) : Int) (0 : Int))
def w_cmp_Or_api_Errno (p0 : List PV) (K : Int → Prop) : Prop := wv_cmp_Or_api_Errno p0 K
def pw_cmp_Or_api_Errno (w : T_cmp_Or_api_Errno) (as : List PV) (K : PV → Prop) : Prop :=
 match as with
 | [(.data p0)] => w p0 (fun r0 => K (.int .i64 r0))
 | _ => False
def wp_cmp_Or_api_Errno (as : List PV) (K : PV → Prop) : Prop := pw_cmp_Or_api_Errno w_cmp_Or_api_Errno as K
def D_cmp_Or_api_Errno_0 (F : Frm) (H : Hp) (A0 : Int → List PV → Int → Int → Prop) : Prop :=
 match F, H with
 | [(3, .v (.int .i64 i0)), (6, .v (.data l1)), (7, .v (.int .i64 i2)), (8, .v (.int .i64 i3))], [] => (A0 i0 l1 i2 i3)
 | _, _ => False
def X_cmp_Or_api_Errno_0_0 (Q : Ex → Frm → Hp → Prop) : Int → Prop := (fun i0 => Q .ret [(2, .v (.int .i64 i0))] [])
def X_cmp_Or_api_Errno_0_1 (Q : Ex → Frm → Hp → Prop) : Int → List PV → Int → Int → Bool → Prop := (fun i0 l1 i2 i3 b4 => Q (.exit 0) [(3, .v (.int .i64 i0)), (6, .v (.data l1)), (7, .v (.int .i64 i2)), (8, .v (.int .i64 i3)), (9, .v (.bool b4))] [])
def R_cmp_Or_api_Errno_0 (Q : Ex → Frm → Hp → Prop) (n : Nat) (F : Frm) (H : Hp) : Prop := D_cmp_Or_api_Errno_0 F H (fun i0 l1 i2 i3 => L_cmp_Or_api_Errno_0_0 (X_cmp_Or_api_Errno_0_0 Q) (X_cmp_Or_api_Errno_0_1 Q) n i0 l1 i2 i3)
def lp_cmp_Or_api_Errno : LP := fun id F H Q =>
 bif Nat.beq id 38508400 then D_cmp_Or_api_Errno_0 F H (fun i0 l1 i2 i3 => ∃ n : Nat, L_cmp_Or_api_Errno_0_0 (X_cmp_Or_api_Errno_0_0 Q) (X_cmp_Or_api_Errno_0_1 Q) n i0 l1 i2 i3) else
 False
def S0_cmp_Or_api_Errno (e : List (Nat × EffF)) : SE := ⟨(E e), lookS [], lookI [], lp_cmp_Or_api_Errno⟩
theorem se0_cmp_Or_api_Errno (e : List (Nat × EffF)) (he : EG e) : SEOk (S0_cmp_Or_api_Errno e) := seOk_of trivial trivial he.ok
theorem body_cmp_Or_api_Errno_0_0 (e : List (Nat × EffF)) ( Q n i0 l1 i2 i3) : WC (E e) (callW (S0_cmp_Or_api_Errno e) 5) (lp_cmp_Or_api_Errno) b_38508400 [(3, .v (.int .i64 i0)), (6, .v (.data l1)), (7, .v (.int .i64 i2)), (8, .v (.int .i64 i3))] [] (fun x F' H' => match x with | .norm => R_cmp_Or_api_Errno_0 Q n F' H' | .exit i => Q (.exit i) F' H' | .ret => Q .ret F' H') = L_cmp_Or_api_Errno_0_0 (X_cmp_Or_api_Errno_0_0 Q) (X_cmp_Or_api_Errno_0_1 Q) (n + 1) i0 l1 i2 i3 := by kernel_rfl
theorem lpb_cmp_Or_api_Errno_0 (e : List (Nat × EffF)) (_ : EG e) : LpOk (E e) (lp_cmp_Or_api_Errno) b_38508400 := (LpOk_no (by kernel_rfl))
theorem loop_cmp_Or_api_Errno_0 (e : List (Nat × EffF)) (he : EG e) : ∀ F H Q, lp_cmp_Or_api_Errno 38508400 F H Q → LoopT (E e) b_38508400 F H Q := by
 intro F H Q h
 have go := LoopT.intro (callW_ok (se0_cmp_Or_api_Errno e he) 5) (lpb_cmp_Or_api_Errno_0 e he) (R_cmp_Or_api_Errno_0 Q) (by
   intro F H h
   unfold R_cmp_Or_api_Errno_0 D_cmp_Or_api_Errno_0 at h
   split at h
   · exact h
   · exact h) (by
   intro n F H h
   unfold R_cmp_Or_api_Errno_0 D_cmp_Or_api_Errno_0 at h
   split at h
   · exact (body_cmp_Or_api_Errno_0_0 ..).mpr h
   · exact h.elim)
 have h : D_cmp_Or_api_Errno_0 F H _ := h
 unfold D_cmp_Or_api_Errno_0 at h
 split at h
 · obtain ⟨n, h⟩ := h; exact go n _ _ h
 · exact h.elim
theorem eq_cmp_Or_api_Errno (e : List (Nat × EffF)) ( p0 K) : WP (S0_cmp_Or_api_Errno e) 6 t_cmp_Or_api_Errno [(.data p0)] K = wv_cmp_Or_api_Errno p0 (fun r0 => K (.int .i64 r0)) := by kernel_rfl
theorem ok_cmp_Or_api_Errno (e : List (Nat × EffF)) (he : EG e) : OkF (E e) wp_cmp_Or_api_Errno n_cmp_Or_api_Errno := by
 intro as K h
 unfold wp_cmp_Or_api_Errno pw_cmp_Or_api_Errno at h
 split at h
 · exact WP_ok (se0_cmp_Or_api_Errno e he) (LpOk_by (l := [(38508400, b_38508400)]) ⟨loop_cmp_Or_api_Errno_0 e he, trivial⟩ (by kernel_rfl)) (by kernel_rfl) (by kernel_rfl) (fun _ => baseS_none (by kernel_rfl) _) (he.num _ (by kernel_rfl)) ((eq_cmp_Or_api_Errno ..).mpr h)
 · exact h.elim
abbrev T_ratio_check : Type := Int → Int → Int → Int → (Int → Prop) → Prop
def wv_ratio_check (a0 : T_ratio_Check) (a1 : T_cmp_Or_api_Errno) (p0 p1 p2 p3 : Int) (K : Int → Prop) : Prop :=
 (a0 p0 p1 (fun yi0 => 
 (a0 p2 p3 (fun yi1 => 
 (a1 ([(.int .i64 yi0), (.int .i64 yi1)] : List PV) (fun yi2 => 
 (K yi2)))))))
def w_ratio_check (p0 p1 p2 p3 : Int) (K : Int → Prop) : Prop := wv_ratio_check w_ratio_Check w_cmp_Or_api_Errno p0 p1 p2 p3 K
def pw_ratio_check (w : T_ratio_check) (as : List PV) (K : PV → Prop) : Prop :=
 match as with
 | [(.agg [(.int .i64 p0), (.int .i64 p1)]), (.agg [(.int .i64 p2), (.int .i64 p3)])] => w p0 p1 p2 p3 (fun r0 => K (.int .i64 r0))
 | _ => False
def wp_ratio_check (as : List PV) (K : PV → Prop) : Prop := pw_ratio_check w_ratio_check as K
def lp_ratio_check (_ : T_ratio_Check) (_ : T_cmp_Or_api_Errno) : LP := fun _ _ _ _ =>
 False
def S0_ratio_check (e : List (Nat × EffF)) (a0 : T_ratio_Check) (a1 : T_cmp_Or_api_Errno) : SE := ⟨(E e), lookS [(n_ratio_Check, pw_ratio_Check a0), (n_cmp_Or_api_Errno, pw_cmp_Or_api_Errno a1)], lookI [], lp_ratio_check a0 a1⟩
theorem se0_ratio_check (e : List (Nat × EffF)) (he : EG e) : SEOk (S0_ratio_check e w_ratio_Check w_cmp_Or_api_Errno) := seOk_of ⟨(ok_ratio_Check e he), (ok_cmp_Or_api_Errno e he), trivial⟩ trivial he.ok
theorem eq_ratio_check (e : List (Nat × EffF)) (a0 a1 p0 p1 p2 p3 K) : WP (S0_ratio_check e a0 a1) 6 t_ratio_check [(.agg [(.int .i64 p0), (.int .i64 p1)]), (.agg [(.int .i64 p2), (.int .i64 p3)])] K = wv_ratio_check a0 a1 p0 p1 p2 p3 (fun r0 => K (.int .i64 r0)) := by kernel_rfl
theorem ok_ratio_check (e : List (Nat × EffF)) (he : EG e) : OkF (E e) wp_ratio_check n_ratio_check := by
 intro as K h
 unfold wp_ratio_check pw_ratio_check at h
 split at h
 · exact WP_ok (se0_ratio_check e he) (LpOk_no (by kernel_rfl)) (by kernel_rfl) (by kernel_rfl) (fun _ => baseS_none (by kernel_rfl) _) (he.num _ (by kernel_rfl)) ((eq_ratio_check ..).mpr h)
 · exact h.elim
abbrev T_cmp_isNaN_int64 : Type := Int → (Bool → Prop) → Prop
def wv_cmp_isNaN_int64 (p0 : Int) (K : Bool → Prop) : Prop :=
 (K (p0 != p0))
def w_cmp_isNaN_int64 (p0 : Int) (K : Bool → Prop) : Prop := wv_cmp_isNaN_int64 p0 K
def pw_cmp_isNaN_int64 (w : T_cmp_isNaN_int64) (as : List PV) (K : PV → Prop) : Prop :=
 match as with
 | [(.int .i64 p0)] => w p0 (fun r0 => K (.bool r0))
 | _ => False
def wp_cmp_isNaN_int64 (as : List PV) (K : PV → Prop) : Prop := pw_cmp_isNaN_int64 w_cmp_isNaN_int64 as K
def lp_cmp_isNaN_int64 : LP := fun _ _ _ _ =>
 False
def S0_cmp_isNaN_int64 (e : List (Nat × EffF)) : SE := ⟨(E e), lookS [], lookI [], lp_cmp_isNaN_int64⟩
theorem se0_cmp_isNaN_int64 (e : List (Nat × EffF)) (he : EG e) : SEOk (S0_cmp_isNaN_int64 e) := seOk_of trivial trivial he.ok
theorem eq_cmp_isNaN_int64 (e : List (Nat × EffF)) ( p0 K) : WP (S0_cmp_isNaN_int64 e) 6 t_cmp_isNaN_int64 [(.int .i64 p0)] K = wv_cmp_isNaN_int64 p0 (fun r0 => K (.bool r0)) := by kernel_rfl
theorem ok_cmp_isNaN_int64 (e : List (Nat × EffF)) (he : EG e) : OkF (E e) wp_cmp_isNaN_int64 n_cmp_isNaN_int64 := by
 intro as K h
 unfold wp_cmp_isNaN_int64 pw_cmp_isNaN_int64 at h
 split at h
 · exact WP_ok (se0_cmp_isNaN_int64 e he) (LpOk_no (by kernel_rfl)) (by kernel_rfl) (by kernel_rfl) (fun _ => baseS_none (by kernel_rfl) _) (he.num _ (by kernel_rfl)) ((eq_cmp_isNaN_int64 ..).mpr h)
 · exact h.elim
abbrev T_cmp_Compare_int64 : Type := Int → Int → (Int → Prop) → Prop
def wv_cmp_Compare_int64 (a0 : T_cmp_isNaN_int64) (p0 p1 : Int) (K : Int → Prop) : Prop :=
 (a0 p0 (fun yb0 => 
 (a0 p1 (fun yb1 => 
 (cbr yb0
 (cbr yb1
 (K (0 : Int))
 (K (-1 : Int)))
 (cbr yb1
 (K (1 : Int))
 (cbr (decide (p0 < p1))
 (K (-1 : Int))
 (cbr (decide (p0 > p1))
 (K (1 : Int))
 (K (0 : Int))))))))))
def w_cmp_Compare_int64 (p0 p1 : Int) (K : Int → Prop) : Prop := wv_cmp_Compare_int64 w_cmp_isNaN_int64 p0 p1 K
def pw_cmp_Compare_int64 (w : T_cmp_Compare_int64) (as : List PV) (K : PV → Prop) : Prop :=
 match as with
 | [(.int .i64 p0), (.int .i64 p1)] => w p0 p1 (fun r0 => K (.int .i64 r0))
 | _ => False
def wp_cmp_Compare_int64 (as : List PV) (K : PV → Prop) : Prop := pw_cmp_Compare_int64 w_cmp_Compare_int64 as K
def lp_cmp_Compare_int64 (_ : T_cmp_isNaN_int64) : LP := fun _ _ _ _ =>
 False
def S0_cmp_Compare_int64 (e : List (Nat × EffF)) (a0 : T_cmp_isNaN_int64) : SE := ⟨(E e), lookS [(n_cmp_isNaN_int64, pw_cmp_isNaN_int64 a0)], lookI [], lp_cmp_Compare_int64 a0⟩
theorem se0_cmp_Compare_int64 (e : List (Nat × EffF)) (he : EG e) : SEOk (S0_cmp_Compare_int64 e w_cmp_isNaN_int64) := seOk_of ⟨(ok_cmp_isNaN_int64 e he), trivial⟩ trivial he.ok
theorem eq_cmp_Compare_int64 (e : List (Nat × EffF)) (a0 p0 p1 K) : WP (S0_cmp_Compare_int64 e a0) 6 t_cmp_Compare_int64 [(.int .i64 p0), (.int .i64 p1)] K = wv_cmp_Compare_int64 a0 p0 p1 (fun r0 => K (.int .i64 r0)) := by kernel_rfl
theorem ok_cmp_Compare_int64 (e : List (Nat × EffF)) (he : EG e) : OkF (E e) wp_cmp_Compare_int64 n_cmp_Compare_int64 := by
 intro as K h
 unfold wp_cmp_Compare_int64 pw_cmp_Compare_int64 at h
 split at h
 · exact WP_ok (se0_cmp_Compare_int64 e he) (LpOk_no (by kernel_rfl)) (by kernel_rfl) (by kernel_rfl) (fun _ => baseS_none (by kernel_rfl) _) (he.num _ (by kernel_rfl)) ((eq_cmp_Compare_int64 ..).mpr h)
 · exact h.elim
abbrev T_m_Mul64 : Type := Int → Int → (Int → Int → Prop) → Prop
def wv_m_Mul64 (p0 p1 : Int) (K : Int → Int → Prop) : Prop :=
 (K (IntKind.u64.wrap ((IntKind.u64.wrap ((IntKind.u64.wrap ((Int.fdiv p0 4294967296) * (Int.fdiv p1 4294967296))) + (Int.fdiv (IntKind.u64.wrap ((IntKind.u64.wrap ((Int.fdiv p0 4294967296) * (IntKind.u64.wrap (BitVec.ofInt IntKind.u64.bits p1 &&& BitVec.ofInt IntKind.u64.bits (4294967295 : Int)).toNat))) + (Int.fdiv (IntKind.u64.wrap ((IntKind.u64.wrap (BitVec.ofInt IntKind.u64.bits p0 &&& BitVec.ofInt IntKind.u64.bits (4294967295 : Int)).toNat) * (IntKind.u64.wrap (BitVec.ofInt IntKind.u64.bits p1 &&& BitVec.ofInt IntKind.u64.bits (4294967295 : Int)).toNat))) 4294967296))) 4294967296))) + (Int.fdiv (IntKind.u64.wrap ((IntKind.u64.wrap (BitVec.ofInt IntKind.u64.bits (IntKind.u64.wrap ((IntKind.u64.wrap ((Int.fdiv p0 4294967296) * (IntKind.u64.wrap (BitVec.ofInt IntKind.u64.bits p1 &&& BitVec.ofInt IntKind.u64.bits (4294967295 : Int)).toNat))) + (Int.fdiv (IntKind.u64.wrap ((IntKind.u64.wrap (BitVec.ofInt IntKind.u64.bits p0 &&& BitVec.ofInt IntKind.u64.bits (4294967295 : Int)).toNat) * (IntKind.u64.wrap (BitVec.ofInt IntKind.u64.bits p1 &&& BitVec.ofInt IntKind.u64.bits (4294967295 : Int)).toNat))) 4294967296))) &&& BitVec.ofInt IntKind.u64.bits (4294967295 : Int)).toNat) + (IntKind.u64.wrap ((IntKind.u64.wrap (BitVec.ofInt IntKind.u64.bits p0 &&& BitVec.ofInt IntKind.u64.bits (4294967295 : Int)).toNat) * (Int.fdiv p1 4294967296))))) 4294967296))) (IntKind.u64.wrap (p0 * p1)))
def w_m_Mul64 (p0 p1 : Int) (K : Int → Int → Prop) : Prop := wv_m_Mul64 p0 p1 K
def pw_m_Mul64 (w : T_m_Mul64) (as : List PV) (K : PV → Prop) : Prop :=
 match as with
 | [(.int .u64 p0), (.int .u64 p1)] => w p0 p1 (fun r0 r1 => K (.tup [(.int .u64 r0), (.int .u64 r1)]))
 | _ => False
def wp_m_Mul64 (as : List PV) (K : PV → Prop) : Prop := pw_m_Mul64 w_m_Mul64 as K
def lp_m_Mul64 : LP := fun _ _ _ _ =>
 False
def S0_m_Mul64 (e : List (Nat × EffF)) : SE := ⟨(E e), lookS [], lookI [], lp_m_Mul64⟩
theorem se0_m_Mul64 (e : List (Nat × EffF)) (he : EG e) : SEOk (S0_m_Mul64 e) := seOk_of trivial trivial he.ok
theorem eq_m_Mul64 (e : List (Nat × EffF)) ( p0 p1 K) : WP (S0_m_Mul64 e) 6 t_m_Mul64 [(.int .u64 p0), (.int .u64 p1)] K = wv_m_Mul64 p0 p1 (fun r0 r1 => K (.tup [(.int .u64 r0), (.int .u64 r1)])) := by kernel_rfl
theorem ok_m_Mul64 (e : List (Nat × EffF)) (he : EG e) : OkF (E e) wp_m_Mul64 n_m_Mul64 := by
 intro as K h
 unfold wp_m_Mul64 pw_m_Mul64 at h
 split at h
 · exact WP_ok (se0_m_Mul64 e he) (LpOk_no (by kernel_rfl)) (by kernel_rfl) (by kernel_rfl) (fun _ => baseS_none (by kernel_rfl) _) (he.num _ (by kernel_rfl)) ((eq_m_Mul64 ..).mpr h)
 · exact h.elim
abbrev T_cmp_isNaN_uint64 : Type := Int → (Bool → Prop) → Prop
def wv_cmp_isNaN_uint64 (p0 : Int) (K : Bool → Prop) : Prop :=
 (K (p0 != p0))
def w_cmp_isNaN_uint64 (p0 : Int) (K : Bool → Prop) : Prop := wv_cmp_isNaN_uint64 p0 K
def pw_cmp_isNaN_uint64 (w : T_cmp_isNaN_uint64) (as : List PV) (K : PV → Prop) : Prop :=
 match as with
 | [(.int .u64 p0)] => w p0 (fun r0 => K (.bool r0))
 | _ => False
def wp_cmp_isNaN_uint64 (as : List PV) (K : PV → Prop) : Prop := pw_cmp_isNaN_uint64 w_cmp_isNaN_uint64 as K
def lp_cmp_isNaN_uint64 : LP := fun _ _ _ _ =>
 False
def S0_cmp_isNaN_uint64 (e : List (Nat × EffF)) : SE := ⟨(E e), lookS [], lookI [], lp_cmp_isNaN_uint64⟩
theorem se0_cmp_isNaN_uint64 (e : List (Nat × EffF)) (he : EG e) : SEOk (S0_cmp_isNaN_uint64 e) := seOk_of trivial trivial he.ok
theorem eq_cmp_isNaN_uint64 (e : List (Nat × EffF)) ( p0 K) : WP (S0_cmp_isNaN_uint64 e) 6 t_cmp_isNaN_uint64 [(.int .u64 p0)] K = wv_cmp_isNaN_uint64 p0 (fun r0 => K (.bool r0)) := by kernel_rfl
theorem ok_cmp_isNaN_uint64 (e : List (Nat × EffF)) (he : EG e) : OkF (E e) wp_cmp_isNaN_uint64 n_cmp_isNaN_uint64 := by
 intro as K h
 unfold wp_cmp_isNaN_uint64 pw_cmp_isNaN_uint64 at h
 split at h
 · exact WP_ok (se0_cmp_isNaN_uint64 e he) (LpOk_no (by kernel_rfl)) (by kernel_rfl) (by kernel_rfl) (fun _ => baseS_none (by kernel_rfl) _) (he.num _ (by kernel_rfl)) ((eq_cmp_isNaN_uint64 ..).mpr h)
 · exact h.elim
abbrev T_cmp_Compare_uint64 : Type := Int → Int → (Int → Prop) → Prop
def wv_cmp_Compare_uint64 (a0 : T_cmp_isNaN_uint64) (p0 p1 : Int) (K : Int → Prop) : Prop :=
 (a0 p0 (fun yb0 => 
 (a0 p1 (fun yb1 => 
 (cbr yb0
 (cbr yb1
 (K (0 : Int))
 (K (-1 : Int)))
 (cbr yb1
 (K (1 : Int))
 (cbr (decide (p0 < p1))
 (K (-1 : Int))
 (cbr (decide (p0 > p1))
 (K (1 : Int))
 (K (0 : Int))))))))))
def w_cmp_Compare_uint64 (p0 p1 : Int) (K : Int → Prop) : Prop := wv_cmp_Compare_uint64 w_cmp_isNaN_uint64 p0 p1 K
def pw_cmp_Compare_uint64 (w : T_cmp_Compare_uint64) (as : List PV) (K : PV → Prop) : Prop :=
 match as with
 | [(.int .u64 p0), (.int .u64 p1)] => w p0 p1 (fun r0 => K (.int .i64 r0))
 | _ => False
def wp_cmp_Compare_uint64 (as : List PV) (K : PV → Prop) : Prop := pw_cmp_Compare_uint64 w_cmp_Compare_uint64 as K
def lp_cmp_Compare_uint64 (_ : T_cmp_isNaN_uint64) : LP := fun _ _ _ _ =>
 False
def S0_cmp_Compare_uint64 (e : List (Nat × EffF)) (a0 : T_cmp_isNaN_uint64) : SE := ⟨(E e), lookS [(n_cmp_isNaN_uint64, pw_cmp_isNaN_uint64 a0)], lookI [], lp_cmp_Compare_uint64 a0⟩
theorem se0_cmp_Compare_uint64 (e : List (Nat × EffF)) (he : EG e) : SEOk (S0_cmp_Compare_uint64 e w_cmp_isNaN_uint64) := seOk_of ⟨(ok_cmp_isNaN_uint64 e he), trivial⟩ trivial he.ok
theorem eq_cmp_Compare_uint64 (e : List (Nat × EffF)) (a0 p0 p1 K) : WP (S0_cmp_Compare_uint64 e a0) 6 t_cmp_Compare_uint64 [(.int .u64 p0), (.int .u64 p1)] K = wv_cmp_Compare_uint64 a0 p0 p1 (fun r0 => K (.int .i64 r0)) := by kernel_rfl
theorem ok_cmp_Compare_uint64 (e : List (Nat × EffF)) (he : EG e) : OkF (E e) wp_cmp_Compare_uint64 n_cmp_Compare_uint64 := by
 intro as K h
 unfold wp_cmp_Compare_uint64 pw_cmp_Compare_uint64 at h
 split at h
 · exact WP_ok (se0_cmp_Compare_uint64 e he) (LpOk_no (by kernel_rfl)) (by kernel_rfl) (by kernel_rfl) (fun _ => baseS_none (by kernel_rfl) _) (he.num _ (by kernel_rfl)) ((eq_cmp_Compare_uint64 ..).mpr h)
 · exact h.elim
abbrev T_cmp_Or_int : Type := List PV → (Int → Prop) → Prop
def L_cmp_Or_int_0_0 (x0 : Int → Prop) (x1 : Int → List PV → Int → Int → Bool → Prop) : Nat → Int → List PV → Int → Int → Prop
 | 0, _, _, _, _ => False
 | n + 1, i0, l1, i2, i3 =>
 (cbr (decide (i3 < i2))
 (asr (decide ((0 : Int) ≤ i3))
 (asr (decide (i3 < (((List.length l1) : Nat) : Int)))
 (asr (conf (.one (.i .i64)) (List.getD l1 (i3.toNat) .nils))
 (cbr ((intOfV (List.getD l1 (i3.toNat) .nils)) != i0)
 (x0 (intOfV (List.getD l1 (i3.toNat) .nils)))
 (L_cmp_Or_int_0_0 x0 x1 n i0 l1 i2 (IntKind.i64.wrap (i3 + (1 : Int))))))))
 (x1 i0 l1 i2 i3 false))
def wv_cmp_Or_int (p0 : List PV) (K : Int → Prop) : Prop :=
 (∃ n : Nat, L_cmp_Or_int_0_0
 (fun yi0 => (K yi0))
 (fun yi1 _ _ _ _ => (K yi1))
 n (0 : Int) p0 (((List.length p0) : Nat) : Int) (0 : Int))
def w_cmp_Or_int (p0 : List PV) (K : Int → Prop) : Prop := wv_cmp_Or_int p0 K
def pw_cmp_Or_int (w : T_cmp_Or_int) (as : List PV) (K : PV → Prop) : Prop :=
 match as with
 | [(.data p0)] => w p0 (fun r0 => K (.int .i64 r0))
 | _ => False
def wp_cmp_Or_int (as : List PV) (K : PV → Prop) : Prop := pw_cmp_Or_int w_cmp_Or_int as K
def D_cmp_Or_int_0 (F : Frm) (H : Hp) (A0 : Int → List PV → Int → Int → Prop) : Prop :=
 match F, H with
 | [(3, .v (.int .i64 i0)), (6, .v (.data l1)), (7, .v (.int .i64 i2)), (8, .v (.int .i64 i3))], [] => (A0 i0 l1 i2 i3)
 | _, _ => False
def X_cmp_Or_int_0_0 (Q : Ex → Frm → Hp → Prop) : Int → Prop := (fun i0 => Q .ret [(2, .v (.int .i64 i0))] [])
def X_cmp_Or_int_0_1 (Q : Ex → Frm → Hp → Prop) : Int → List PV → Int → Int → Bool → Prop := (fun i0 l1 i2 i3 b4 => Q (.exit 0) [(3, .v (.int .i64 i0)), (6, .v (.data l1)), (7, .v (.int .i64 i2)), (8, .v (.int .i64 i3)), (9, .v (.bool b4))] [])
def R_cmp_Or_int_0 (Q : Ex → Frm → Hp → Prop) (n : Nat) (F : Frm) (H : Hp) : Prop := D_cmp_Or_int_0 F H (fun i0 l1 i2 i3 => L_cmp_Or_int_0_0 (X_cmp_Or_int_0_0 Q) (X_cmp_Or_int_0_1 Q) n i0 l1 i2 i3)
def lp_cmp_Or_int : LP := fun id F H Q =>
 bif Nat.beq id 53260600 then D_cmp_Or_int_0 F H (fun i0 l1 i2 i3 => ∃ n : Nat, L_cmp_Or_int_0_0 (X_cmp_Or_int_0_0 Q) (X_cmp_Or_int_0_1 Q) n i0 l1 i2 i3) else
 False
def S0_cmp_Or_int (e : List (Nat × EffF)) : SE := ⟨(E e), lookS [], lookI [], lp_cmp_Or_int⟩
theorem se0_cmp_Or_int (e : List (Nat × EffF)) (he : EG e) : SEOk (S0_cmp_Or_int e) := seOk_of trivial trivial he.ok
theorem body_cmp_Or_int_0_0 (e : List (Nat × EffF)) ( Q n i0 l1 i2 i3) : WC (E e) (callW (S0_cmp_Or_int e) 5) (lp_cmp_Or_int) b_53260600 [(3, .v (.int .i64 i0)), (6, .v (.data l1)), (7, .v (.int .i64 i2)), (8, .v (.int .i64 i3))] [] (fun x F' H' => match x with | .norm => R_cmp_Or_int_0 Q n F' H' | .exit i => Q (.exit i) F' H' | .ret => Q .ret F' H') = L_cmp_Or_int_0_0 (X_cmp_Or_int_0_0 Q) (X_cmp_Or_int_0_1 Q) (n + 1) i0 l1 i2 i3 := by kernel_rfl
theorem lpb_cmp_Or_int_0 (e : List (Nat × EffF)) (_ : EG e) : LpOk (E e) (lp_cmp_Or_int) b_53260600 := (LpOk_no (by kernel_rfl))
theorem loop_cmp_Or_int_0 (e : List (Nat × EffF)) (he : EG e) : ∀ F H Q, lp_cmp_Or_int 53260600 F H Q → LoopT (E e) b_53260600 F H Q := by
 intro F H Q h
 have go := LoopT.intro (callW_ok (se0_cmp_Or_int e he) 5) (lpb_cmp_Or_int_0 e he) (R_cmp_Or_int_0 Q) (by
   intro F H h
   unfold R_cmp_Or_int_0 D_cmp_Or_int_0 at h
   split at h
   · exact h
   · exact h) (by
   intro n F H h
   unfold R_cmp_Or_int_0 D_cmp_Or_int_0 at h
   split at h
   · exact (body_cmp_Or_int_0_0 ..).mpr h
   · exact h.elim)
 have h : D_cmp_Or_int_0 F H _ := h
 unfold D_cmp_Or_int_0 at h
 split at h
 · obtain ⟨n, h⟩ := h; exact go n _ _ h
 · exact h.elim
theorem eq_cmp_Or_int (e : List (Nat × EffF)) ( p0 K) : WP (S0_cmp_Or_int e) 6 t_cmp_Or_int [(.data p0)] K = wv_cmp_Or_int p0 (fun r0 => K (.int .i64 r0)) := by kernel_rfl
theorem ok_cmp_Or_int (e : List (Nat × EffF)) (he : EG e) : OkF (E e) wp_cmp_Or_int n_cmp_Or_int := by
 intro as K h
 unfold wp_cmp_Or_int pw_cmp_Or_int at h
 split at h
 · exact WP_ok (se0_cmp_Or_int e he) (LpOk_by (l := [(53260600, b_53260600)]) ⟨loop_cmp_Or_int_0 e he, trivial⟩ (by kernel_rfl)) (by kernel_rfl) (by kernel_rfl) (fun _ => baseS_none (by kernel_rfl) _) (he.num _ (by kernel_rfl)) ((eq_cmp_Or_int ..).mpr h)
 · exact h.elim
abbrev T_ratio_Cmp : Type := Int → Int → Int → Int → (Int → Int → Prop) → Prop
def wv_ratio_Cmp (a0 : T_ratio_check) (a1 : T_cmp_Compare_int64) (a2 : T_ratio_size) (a3 : T_m_Mul64) (a4 : T_cmp_Compare_uint64) (a5 : T_cmp_Or_int) (p0 p1 p2 p3 : Int) (K : Int → Int → Prop) : Prop :=
 (a0 p0 p1 p2 p3 (fun yi0 => 
 (cbr (yi0 != (0 : Int))
 (K (0 : Int) yi0)
 (cbr ((decide (p0 < (0 : Int))) != (decide (p2 < (0 : Int))))
 (a1 p0 p2 (fun yi1 => 
 (K yi1 (0 : Int))))
 (a2 p0 (fun yi2 => 
 (a3 yi2 (IntKind.u64.wrap p3) (fun yi3 yi4 => 
 (a2 p2 (fun yi5 => 
 (a3 yi5 (IntKind.u64.wrap p1) (fun yi6 yi7 => 
 (a4 yi3 yi6 (fun yi8 => 
 (a4 yi4 yi7 (fun yi9 => 
 (a5 ([(.int .i64 yi8), (.int .i64 yi9)] : List PV) (fun yi10 => 
 (cbr (decide (p0 < (0 : Int)))
 (K (IntKind.i64.wrap ((0 : Int) - yi10)) (0 : Int))
 (K yi10 (0 : Int)))))))))))))))))))))
def w_ratio_Cmp (p0 p1 p2 p3 : Int) (K : Int → Int → Prop) : Prop := wv_ratio_Cmp w_ratio_check w_cmp_Compare_int64 w_ratio_size w_m_Mul64 w_cmp_Compare_uint64 w_cmp_Or_int p0 p1 p2 p3 K
def pw_ratio_Cmp (w : T_ratio_Cmp) (as : List PV) (K : PV → Prop) : Prop :=
 match as with
 | [(.agg [(.int .i64 p0), (.int .i64 p1)]), (.agg [(.int .i64 p2), (.int .i64 p3)])] => w p0 p1 p2 p3 (fun r0 r1 => K (.tup [(.int .i64 r0), (.int .i64 r1)]))
 | _ => False
def wp_ratio_Cmp (as : List PV) (K : PV → Prop) : Prop := pw_ratio_Cmp w_ratio_Cmp as K
def lp_ratio_Cmp (_ : T_ratio_check) (_ : T_cmp_Compare_int64) (_ : T_ratio_size) (_ : T_m_Mul64) (_ : T_cmp_Compare_uint64) (_ : T_cmp_Or_int) : LP := fun _ _ _ _ =>
 False
def S0_ratio_Cmp (e : List (Nat × EffF)) (a0 : T_ratio_check) (a1 : T_cmp_Compare_int64) (a2 : T_ratio_size) (a3 : T_m_Mul64) (a4 : T_cmp_Compare_uint64) (a5 : T_cmp_Or_int) : SE := ⟨(E e), lookS [(n_ratio_check, pw_ratio_check a0), (n_cmp_Compare_int64, pw_cmp_Compare_int64 a1), (n_ratio_size, pw_ratio_size a2), (n_m_Mul64, pw_m_Mul64 a3), (n_cmp_Compare_uint64, pw_cmp_Compare_uint64 a4), (n_cmp_Or_int, pw_cmp_Or_int a5)], lookI [], lp_ratio_Cmp a0 a1 a2 a3 a4 a5⟩
theorem se0_ratio_Cmp (e : List (Nat × EffF)) (he : EG e) : SEOk (S0_ratio_Cmp e w_ratio_check w_cmp_Compare_int64 w_ratio_size w_m_Mul64 w_cmp_Compare_uint64 w_cmp_Or_int) := seOk_of ⟨(ok_ratio_check e he), (ok_cmp_Compare_int64 e he), (ok_ratio_size e he), (ok_m_Mul64 e he), (ok_cmp_Compare_uint64 e he), (ok_cmp_Or_int e he), trivial⟩ trivial he.ok
theorem eq_ratio_Cmp (e : List (Nat × EffF)) (a0 a1 a2 a3 a4 a5 p0 p1 p2 p3 K) : WP (S0_ratio_Cmp e a0 a1 a2 a3 a4 a5) 6 t_ratio_Cmp [(.agg [(.int .i64 p0), (.int .i64 p1)]), (.agg [(.int .i64 p2), (.int .i64 p3)])] K = wv_ratio_Cmp a0 a1 a2 a3 a4 a5 p0 p1 p2 p3 (fun r0 r1 => K (.tup [(.int .i64 r0), (.int .i64 r1)])) := by kernel_rfl
theorem ok_ratio_Cmp (e : List (Nat × EffF)) (he : EG e) : OkF (E e) wp_ratio_Cmp n_ratio_Cmp := by
 intro as K h
 unfold wp_ratio_Cmp pw_ratio_Cmp at h
 split at h
 · exact WP_ok (se0_ratio_Cmp e he) (LpOk_no (by kernel_rfl)) (by kernel_rfl) (by kernel_rfl) (fun _ => baseS_none (by kernel_rfl) _) (he.num _ (by kernel_rfl)) ((eq_ratio_Cmp ..).mpr h)
 · exact h.elim
def wv_m_Len64 (p0 : Int) (K : Int → Prop) : Prop :=
 (cbr (decide (p0 ≥ (4294967296 : Int)))
 (cbr (decide ((Int.fdiv p0 4294967296) ≥ (65536 : Int)))
 (cbr (decide ((Int.fdiv (Int.fdiv p0 4294967296) 65536) ≥ (256 : Int)))
 (asr (decide ((0 : Int) ≤ (IntKind.u8.wrap (Int.fdiv (Int.fdiv (Int.fdiv p0 4294967296) 65536) 256))))
 (asr (decide ((IntKind.u8.wrap (Int.fdiv (Int.fdiv (Int.fdiv p0 4294967296) 65536) 256)) < (256 : Int)))
 (K (IntKind.i64.wrap ((56 : Int) + (IntKind.i64.wrap (intOfV (List.getD len8tab ((IntKind.u8.wrap (Int.fdiv (Int.fdiv (Int.fdiv p0 4294967296) 65536) 256)).toNat) .nils))))))))
 (asr (decide ((0 : Int) ≤ (IntKind.u8.wrap (Int.fdiv (Int.fdiv p0 4294967296) 65536))))
 (asr (decide ((IntKind.u8.wrap (Int.fdiv (Int.fdiv p0 4294967296) 65536)) < (256 : Int)))
 (K (IntKind.i64.wrap ((48 : Int) + (IntKind.i64.wrap (intOfV (List.getD len8tab ((IntKind.u8.wrap (Int.fdiv (Int.fdiv p0 4294967296) 65536)).toNat) .nils)))))))))
 (cbr (decide ((Int.fdiv p0 4294967296) ≥ (256 : Int)))
 (asr (decide ((0 : Int) ≤ (IntKind.u8.wrap (Int.fdiv (Int.fdiv p0 4294967296) 256))))
 (asr (decide ((IntKind.u8.wrap (Int.fdiv (Int.fdiv p0 4294967296) 256)) < (256 : Int)))
 (K (IntKind.i64.wrap ((40 : Int) + (IntKind.i64.wrap (intOfV (List.getD len8tab ((IntKind.u8.wrap (Int.fdiv (Int.fdiv p0 4294967296) 256)).toNat) .nils))))))))
 (asr (decide ((0 : Int) ≤ (IntKind.u8.wrap (Int.fdiv p0 4294967296))))
 (asr (decide ((IntKind.u8.wrap (Int.fdiv p0 4294967296)) < (256 : Int)))
 (K (IntKind.i64.wrap ((32 : Int) + (IntKind.i64.wrap (intOfV (List.getD len8tab ((IntKind.u8.wrap (Int.fdiv p0 4294967296)).toNat) .nils))))))))))
 (cbr (decide (p0 ≥ (65536 : Int)))
 (cbr (decide ((Int.fdiv p0 65536) ≥ (256 : Int)))
 (asr (decide ((0 : Int) ≤ (IntKind.u8.wrap (Int.fdiv (Int.fdiv p0 65536) 256))))
 (asr (decide ((IntKind.u8.wrap (Int.fdiv (Int.fdiv p0 65536) 256)) < (256 : Int)))
 (K (IntKind.i64.wrap ((24 : Int) + (IntKind.i64.wrap (intOfV (List.getD len8tab ((IntKind.u8.wrap (Int.fdiv (Int.fdiv p0 65536) 256)).toNat) .nils))))))))
 (asr (decide ((0 : Int) ≤ (IntKind.u8.wrap (Int.fdiv p0 65536))))
 (asr (decide ((IntKind.u8.wrap (Int.fdiv p0 65536)) < (256 : Int)))
 (K (IntKind.i64.wrap ((16 : Int) + (IntKind.i64.wrap (intOfV (List.getD len8tab ((IntKind.u8.wrap (Int.fdiv p0 65536)).toNat) .nils)))))))))
 (cbr (decide (p0 ≥ (256 : Int)))
 (asr (decide ((0 : Int) ≤ (IntKind.u8.wrap (Int.fdiv p0 256))))
 (asr (decide ((IntKind.u8.wrap (Int.fdiv p0 256)) < (256 : Int)))
 (K (IntKind.i64.wrap ((8 : Int) + (IntKind.i64.wrap (intOfV (List.getD len8tab ((IntKind.u8.wrap (Int.fdiv p0 256)).toNat) .nils))))))))
 (asr (decide ((0 : Int) ≤ (IntKind.u8.wrap p0)))
 (asr (decide ((IntKind.u8.wrap p0) < (256 : Int)))
 (K (IntKind.i64.wrap ((0 : Int) + (IntKind.i64.wrap (intOfV (List.getD len8tab ((IntKind.u8.wrap p0).toNat) .nils)))))))))))
def w_m_Len64 (p0 : Int) (K : Int → Prop) : Prop := wv_m_Len64 p0 K
abbrev T_ratio_signed : Type := Bool → Int → Int → (Int → Int → Int → Prop) → Prop
def wv_ratio_signed (p0 : Bool) (p1 p2 : Int) (K : Int → Int → Int → Prop) : Prop :=
 (cbr (decide ((if p2 > p1 then p2 else p1) > (1000000000000000000 : Int)))
 (K (0 : Int) (0 : Int) (16 : Int))
 (cbr p0
 (K (IntKind.i64.wrap ((0 : Int) - (IntKind.i64.wrap p1))) (IntKind.i64.wrap p2) (0 : Int))
 (K (IntKind.i64.wrap p1) (IntKind.i64.wrap p2) (0 : Int))))
def w_ratio_signed (p0 : Bool) (p1 p2 : Int) (K : Int → Int → Int → Prop) : Prop := wv_ratio_signed p0 p1 p2 K
def pw_ratio_signed (w : T_ratio_signed) (as : List PV) (K : PV → Prop) : Prop :=
 match as with
 | [(.bool p0), (.int .u64 p1), (.int .u64 p2)] => w p0 p1 p2 (fun r0 r1 r2 => K (.tup [(.agg [(.int .i64 r0), (.int .i64 r1)]), (.int .i64 r2)]))
 | _ => False
def wp_ratio_signed (as : List PV) (K : PV → Prop) : Prop := pw_ratio_signed w_ratio_signed as K
def lp_ratio_signed : LP := fun _ _ _ _ =>
 False
def S0_ratio_signed (e : List (Nat × EffF)) : SE := ⟨(E e), lookS [], lookI [], lp_ratio_signed⟩
theorem se0_ratio_signed (e : List (Nat × EffF)) (he : EG e) : SEOk (S0_ratio_signed e) := seOk_of trivial trivial he.ok
theorem eq_ratio_signed (e : List (Nat × EffF)) ( p0 p1 p2 K) : WP (S0_ratio_signed e) 6 t_ratio_signed [(.bool p0), (.int .u64 p1), (.int .u64 p2)] K = wv_ratio_signed p0 p1 p2 (fun r0 r1 r2 => K (.tup [(.agg [(.int .i64 r0), (.int .i64 r1)]), (.int .i64 r2)])) := by kernel_rfl
theorem ok_ratio_signed (e : List (Nat × EffF)) (he : EG e) : OkF (E e) wp_ratio_signed n_ratio_signed := by
 intro as K h
 unfold wp_ratio_signed pw_ratio_signed at h
 split at h
 · exact WP_ok (se0_ratio_signed e he) (LpOk_no (by kernel_rfl)) (by kernel_rfl) (by kernel_rfl) (fun _ => baseS_none (by kernel_rfl) _) (he.num _ (by kernel_rfl)) ((eq_ratio_signed ..).mpr h)
 · exact h.elim
abbrev T_ratio_Make : Type := Int → Int → (Int → Int → Int → Prop) → Prop
def wv_ratio_Make (a0 : T_ratio_size) (a1 : T_ratio_gcd) (a2 : T_ratio_signed) (p0 p1 : Int) (K : Int → Int → Int → Prop) : Prop :=
 (cbr (p1 == (0 : Int))
 (K (0 : Int) (0 : Int) (18 : Int))
 (a0 p0 (fun yi0 => 
 (a0 p1 (fun yi1 => 
 (a1 yi0 yi1 (fun yi2 => 
 (asr (!(decide (yi2 = (0 : Int))))
 (asr (!(decide (yi2 = (0 : Int))))
 (a2 ((decide (p0 < (0 : Int))) != (decide (p1 < (0 : Int)))) (IntKind.u64.wrap (Int.tdiv yi0 yi2)) (IntKind.u64.wrap (Int.tdiv yi1 yi2)) (fun yi3 yi4 yi5 => 
 (K yi3 yi4 yi5))))))))))))
def w_ratio_Make (p0 p1 : Int) (K : Int → Int → Int → Prop) : Prop := wv_ratio_Make w_ratio_size w_ratio_gcd w_ratio_signed p0 p1 K
def pw_ratio_Make (w : T_ratio_Make) (as : List PV) (K : PV → Prop) : Prop :=
 match as with
 | [(.int .i64 p0), (.int .i64 p1)] => w p0 p1 (fun r0 r1 r2 => K (.tup [(.agg [(.int .i64 r0), (.int .i64 r1)]), (.int .i64 r2)]))
 | _ => False
def wp_ratio_Make (as : List PV) (K : PV → Prop) : Prop := pw_ratio_Make w_ratio_Make as K
def lp_ratio_Make (_ : T_ratio_size) (_ : T_ratio_gcd) (_ : T_ratio_signed) : LP := fun _ _ _ _ =>
 False
def S0_ratio_Make (e : List (Nat × EffF)) (a0 : T_ratio_size) (a1 : T_ratio_gcd) (a2 : T_ratio_signed) : SE := ⟨(E e), lookS [(n_ratio_size, pw_ratio_size a0), (n_ratio_gcd, pw_ratio_gcd a1), (n_ratio_signed, pw_ratio_signed a2)], lookI [], lp_ratio_Make a0 a1 a2⟩
theorem se0_ratio_Make (e : List (Nat × EffF)) (he : EG e) : SEOk (S0_ratio_Make e w_ratio_size w_ratio_gcd w_ratio_signed) := seOk_of ⟨(ok_ratio_size e he), (ok_ratio_gcd e he), (ok_ratio_signed e he), trivial⟩ trivial he.ok
theorem eq_ratio_Make (e : List (Nat × EffF)) (a0 a1 a2 p0 p1 K) : WP (S0_ratio_Make e a0 a1 a2) 6 t_ratio_Make [(.int .i64 p0), (.int .i64 p1)] K = wv_ratio_Make a0 a1 a2 p0 p1 (fun r0 r1 r2 => K (.tup [(.agg [(.int .i64 r0), (.int .i64 r1)]), (.int .i64 r2)])) := by kernel_rfl
theorem ok_ratio_Make (e : List (Nat × EffF)) (he : EG e) : OkF (E e) wp_ratio_Make n_ratio_Make := by
 intro as K h
 unfold wp_ratio_Make pw_ratio_Make at h
 split at h
 · exact WP_ok (se0_ratio_Make e he) (LpOk_no (by kernel_rfl)) (by kernel_rfl) (by kernel_rfl) (fun _ => baseS_none (by kernel_rfl) _) (he.num _ (by kernel_rfl)) ((eq_ratio_Make ..).mpr h)
 · exact h.elim
end Go.Pf.Vc
namespace Go.Pf.Vc
open Go Go.Pf
set_option linter.unusedVariables false
theorem det_ratio_Check (p0 : Int) (p1 : Int) (r0 : Int) (h : ∀ K : Int → Prop, K r0 → w_ratio_Check p0 p1 K) (K : Int → Prop) : w_ratio_Check p0 p1 K = K r0 :=
 propext ⟨fun k => detC (ok_ratio_Check [] effG_nil) (as := [(.agg [(.int .i64 p0), (.int .i64 p1)])]) (x := (.int .i64 r0)) (fun K' k' => h (fun r0 => K' (.int .i64 r0)) k') (K := fun x => match x with | (.int .i64 r0) => K r0 | _ => False) k, h K⟩
theorem det_ratio_Cmp (p0 : Int) (p1 : Int) (p2 : Int) (p3 : Int) (r0 : Int) (r1 : Int) (h : ∀ K : Int → Int → Prop, K r0 r1 → w_ratio_Cmp p0 p1 p2 p3 K) (K : Int → Int → Prop) : w_ratio_Cmp p0 p1 p2 p3 K = K r0 r1 :=
 propext ⟨fun k => detC (ok_ratio_Cmp [] effG_nil) (as := [(.agg [(.int .i64 p0), (.int .i64 p1)]), (.agg [(.int .i64 p2), (.int .i64 p3)])]) (x := (.tup [(.int .i64 r0), (.int .i64 r1)])) (fun K' k' => h (fun r0 r1 => K' (.tup [(.int .i64 r0), (.int .i64 r1)])) k') (K := fun x => match x with | (.tup [(.int .i64 r0), (.int .i64 r1)]) => K r0 r1 | _ => False) k, h K⟩
theorem det_ratio_Make (p0 : Int) (p1 : Int) (r0 : Int) (r1 : Int) (r2 : Int) (h : ∀ K : Int → Int → Int → Prop, K r0 r1 r2 → w_ratio_Make p0 p1 K) (K : Int → Int → Int → Prop) : w_ratio_Make p0 p1 K = K r0 r1 r2 :=
 propext ⟨fun k => detC (ok_ratio_Make [] effG_nil) (as := [(.int .i64 p0), (.int .i64 p1)]) (x := (.tup [(.agg [(.int .i64 r0), (.int .i64 r1)]), (.int .i64 r2)])) (fun K' k' => h (fun r0 r1 r2 => K' (.tup [(.agg [(.int .i64 r0), (.int .i64 r1)]), (.int .i64 r2)])) k') (K := fun x => match x with | (.tup [(.agg [(.int .i64 r0), (.int .i64 r1)]), (.int .i64 r2)]) => K r0 r1 r2 | _ => False) k, h K⟩
end Go.Pf.Vc
namespace Go.Pf.Vc
open Go Go.Pf
set_option maxRecDepth 100000
abbrev T_s_Equal_int64_int64 : Type := List PV → List PV → (Bool → Prop) → Prop
def L_s_Equal_int64_int64_0_0 (x0 : List PV → List PV → Int → Int → Bool → Prop) (x1 : Bool → Prop) : Nat → List PV → List PV → Int → Int → Prop
 | 0, _, _, _, _ => False
 | n + 1, l0, l1, i2, i3 =>
 (cbr (decide (i3 < i2))
 (asr (decide ((0 : Int) ≤ i3))
 (asr (decide (i3 < (((List.length l0) : Nat) : Int)))
 (lt (List.getD l0 (i3.toNat) .nils) (fun yr6 =>
 (asr (conf (.one (.i .i64)) yr6)
 (asr (decide ((0 : Int) ≤ i3))
 (asr (decide (i3 < (((List.length l1) : Nat) : Int)))
 (lt (List.getD l1 (i3.toNat) .nils) (fun yr7 =>
 (asr (conf (.one (.i .i64)) yr7)
 (cbr ((intOfV yr6) != (intOfV yr7))
 (x1 false)
 (lt (IntKind.i64.wrap (i3 + (1 : Int))) (fun yi8 =>
 (L_s_Equal_int64_int64_0_0 x0 x1 n l0 l1 i2 yi8))))))))))))))
 (x0 l0 l1 i2 i3 false))
def wv_s_Equal_int64_int64 (p0 p1 : List PV) (K : Bool → Prop) : Prop :=
 (cbr ((((List.length p0) : Nat) : Int) != (((List.length p1) : Nat) : Int))
 (K false)
 (∃ n : Nat, L_s_Equal_int64_int64_0_0
 (fun _ _ _ _ _ => (K true))
 (fun yb20 => (K yb20))
 n p0 p1 (((List.length p0) : Nat) : Int) (0 : Int)))
def w_s_Equal_int64_int64 (p0 p1 : List PV) (K : Bool → Prop) : Prop := wv_s_Equal_int64_int64 p0 p1 K
def pw_s_Equal_int64_int64 (w : T_s_Equal_int64_int64) (as : List PV) (K : PV → Prop) : Prop :=
 match as with
 | [(.data p0), (.data p1)] => w p0 p1 (fun r0 => K (.bool r0))
 | _ => False
def wp_s_Equal_int64_int64 (as : List PV) (K : PV → Prop) : Prop := pw_s_Equal_int64_int64 w_s_Equal_int64_int64 as K
def D_s_Equal_int64_int64_0 (F : Frm) (H : Hp) (A0 : List PV → List PV → Int → Int → Prop) : Prop :=
 match F, H with
 | [(0, .v (.data l0)), (1, .v (.data l1)), (12, .v (.int .i64 i2)), (13, .v (.int .i64 i3))], [] => (A0 l0 l1 i2 i3)
 | _, _ => False
def X_s_Equal_int64_int64_0_0 (Q : Ex → Frm → Hp → Prop) : List PV → List PV → Int → Int → Bool → Prop := (fun l0 l1 i2 i3 b4 => Q (.exit 0) [(0, .v (.data l0)), (1, .v (.data l1)), (12, .v (.int .i64 i2)), (13, .v (.int .i64 i3)), (14, .v (.bool b4))] [])
def X_s_Equal_int64_int64_0_1 (Q : Ex → Frm → Hp → Prop) : Bool → Prop := (fun b0 => Q .ret [(4, .v (.bool b0))] [])
def R_s_Equal_int64_int64_0 (Q : Ex → Frm → Hp → Prop) (n : Nat) (F : Frm) (H : Hp) : Prop := D_s_Equal_int64_int64_0 F H (fun l0 l1 i2 i3 => L_s_Equal_int64_int64_0_0 (X_s_Equal_int64_int64_0_0 Q) (X_s_Equal_int64_int64_0_1 Q) n l0 l1 i2 i3)
def lp_s_Equal_int64_int64 : LP := fun id F H Q =>
 bif Nat.beq id 67911700 then D_s_Equal_int64_int64_0 F H (fun l0 l1 i2 i3 => ∃ n : Nat, L_s_Equal_int64_int64_0_0 (X_s_Equal_int64_int64_0_0 Q) (X_s_Equal_int64_int64_0_1 Q) n l0 l1 i2 i3) else
 False
def S0_s_Equal_int64_int64 (e : List (Nat × EffF)) : SE := ⟨(E e), lookS [], lookI [], lp_s_Equal_int64_int64⟩
theorem se0_s_Equal_int64_int64 (e : List (Nat × EffF)) (he : EG e) : SEOk (S0_s_Equal_int64_int64 e) := seOk_of trivial trivial he.ok
theorem body_s_Equal_int64_int64_0_0 (e : List (Nat × EffF)) ( Q n l0 l1 i2 i3) : WC (E e) (callW (S0_s_Equal_int64_int64 e) 5) (lp_s_Equal_int64_int64) b_67911700 [(0, .v (.data l0)), (1, .v (.data l1)), (12, .v (.int .i64 i2)), (13, .v (.int .i64 i3))] [] (fun x F' H' => match x with | .norm => R_s_Equal_int64_int64_0 Q n F' H' | .exit i => Q (.exit i) F' H' | .ret => Q .ret F' H') = L_s_Equal_int64_int64_0_0 (X_s_Equal_int64_int64_0_0 Q) (X_s_Equal_int64_int64_0_1 Q) (n + 1) l0 l1 i2 i3 := by kernel_rfl
theorem lpb_s_Equal_int64_int64_0 (e : List (Nat × EffF)) (_ : EG e) : LpOk (E e) (lp_s_Equal_int64_int64) b_67911700 := (LpOk_no (by kernel_rfl))
theorem loop_s_Equal_int64_int64_0 (e : List (Nat × EffF)) (he : EG e) : ∀ F H Q, lp_s_Equal_int64_int64 67911700 F H Q → LoopT (E e) b_67911700 F H Q := by
 intro F H Q h
 have go := LoopT.intro (callW_ok (se0_s_Equal_int64_int64 e he) 5) (lpb_s_Equal_int64_int64_0 e he) (R_s_Equal_int64_int64_0 Q) (by
   intro F H h
   unfold R_s_Equal_int64_int64_0 D_s_Equal_int64_int64_0 at h
   split at h
   · exact h
   · exact h) (by
   intro n F H h
   unfold R_s_Equal_int64_int64_0 D_s_Equal_int64_int64_0 at h
   split at h
   · exact (body_s_Equal_int64_int64_0_0 ..).mpr h
   · exact h.elim)
 have h : D_s_Equal_int64_int64_0 F H _ := h
 unfold D_s_Equal_int64_int64_0 at h
 split at h
 · obtain ⟨n, h⟩ := h; exact go n _ _ h
 · exact h.elim
theorem eq_s_Equal_int64_int64 (e : List (Nat × EffF)) ( p0 p1 K) : WP (S0_s_Equal_int64_int64 e) 6 t_s_Equal_int64_int64 [(.data p0), (.data p1)] K = wv_s_Equal_int64_int64 p0 p1 (fun r0 => K (.bool r0)) := by kernel_rfl
theorem ok_s_Equal_int64_int64 (e : List (Nat × EffF)) (he : EG e) : OkF (E e) wp_s_Equal_int64_int64 n_s_Equal_int64_int64 := by
 intro as K h
 unfold wp_s_Equal_int64_int64 pw_s_Equal_int64_int64 at h
 split at h
 · exact WP_ok (se0_s_Equal_int64_int64 e he) (LpOk_by (l := [(67911700, b_67911700)]) ⟨loop_s_Equal_int64_int64_0 e he, trivial⟩ (by kernel_rfl)) (by kernel_rfl) (by kernel_rfl) (fun _ => baseS_none (by kernel_rfl) _) (he.num _ (by kernel_rfl)) ((eq_s_Equal_int64_int64 ..).mpr h)
 · exact h.elim
end Go.Pf.Vc
namespace Go.Pf.Vc
open Go Go.Pf
set_option linter.unusedVariables false
theorem det_s_Equal_int64_int64 (p0 : List PV) (p1 : List PV) (r0 : Bool) (h : ∀ K : Bool → Prop, K r0 → w_s_Equal_int64_int64 p0 p1 K) (K : Bool → Prop) : w_s_Equal_int64_int64 p0 p1 K = K r0 :=
 propext ⟨fun k => detC (ok_s_Equal_int64_int64 [] effG_nil) (as := [(.data p0), (.data p1)]) (x := (.bool r0)) (fun K' k' => h (fun r0 => K' (.bool r0)) k') (K := fun x => match x with | (.bool r0) => K r0 | _ => False) k, h K⟩
end Go.Pf.Vc
namespace Go.Pf.Vc
open Go Go.Pf
set_option maxRecDepth 100000
abbrev T_audit_order : Type := Int → Int → Int → Int → (Int → Prop) → Prop
def wv_audit_order (a0 : T_ratio_Cmp) (p0 p1 p2 p3 : Int) (K : Int → Prop) : Prop :=
 (a0 p0 p1 p2 p3 (fun yi2 _ => 
 (K yi2)))
def w_audit_order (p0 p1 p2 p3 : Int) (K : Int → Prop) : Prop := wv_audit_order w_ratio_Cmp p0 p1 p2 p3 K
def pw_audit_order (w : T_audit_order) (as : List PV) (K : PV → Prop) : Prop :=
 match as with
 | [(.agg [(.int .i64 p0), (.int .i64 p1)]), (.agg [(.int .i64 p2), (.int .i64 p3)])] => w p0 p1 p2 p3 (fun r0 => K (.int .i64 r0))
 | _ => False
def wp_audit_order (as : List PV) (K : PV → Prop) : Prop := pw_audit_order w_audit_order as K
def lp_audit_order (_ : T_ratio_Cmp) : LP := fun _ _ _ _ =>
 False
def S0_audit_order (e : List (Nat × EffF)) (a0 : T_ratio_Cmp) : SE := ⟨(E e), lookS [(n_ratio_Cmp, pw_ratio_Cmp a0)], lookI [], lp_audit_order a0⟩
theorem se0_audit_order (e : List (Nat × EffF)) (he : EG e) : SEOk (S0_audit_order e w_ratio_Cmp) := seOk_of ⟨(ok_ratio_Cmp e he), trivial⟩ trivial he.ok
theorem eq_audit_order (e : List (Nat × EffF)) (a0 p0 p1 p2 p3 K) : WP (S0_audit_order e a0) 6 t_audit_order [(.agg [(.int .i64 p0), (.int .i64 p1)]), (.agg [(.int .i64 p2), (.int .i64 p3)])] K = wv_audit_order a0 p0 p1 p2 p3 (fun r0 => K (.int .i64 r0)) := by kernel_rfl
theorem ok_audit_order (e : List (Nat × EffF)) (he : EG e) : OkF (E e) wp_audit_order n_audit_order := by
 intro as K h
 unfold wp_audit_order pw_audit_order at h
 split at h
 · exact WP_ok (se0_audit_order e he) (LpOk_no (by kernel_rfl)) (by kernel_rfl) (by kernel_rfl) (fun _ => baseS_none (by kernel_rfl) _) (he.num _ (by kernel_rfl)) ((eq_audit_order ..).mpr h)
 · exact h.elim
abbrev T_audit_whole : Type := Int → (Int → Int → Prop) → Prop
def wv_audit_whole (p0 : Int) (K : Int → Int → Prop) : Prop :=
 (K p0 (1 : Int))
def w_audit_whole (p0 : Int) (K : Int → Int → Prop) : Prop := wv_audit_whole p0 K
def pw_audit_whole (w : T_audit_whole) (as : List PV) (K : PV → Prop) : Prop :=
 match as with
 | [(.int .i64 p0)] => w p0 (fun r0 r1 => K (.agg [(.int .i64 r0), (.int .i64 r1)]))
 | _ => False
def wp_audit_whole (as : List PV) (K : PV → Prop) : Prop := pw_audit_whole w_audit_whole as K
def lp_audit_whole : LP := fun _ _ _ _ =>
 False
def S0_audit_whole (e : List (Nat × EffF)) : SE := ⟨(E e), lookS [], lookI [], lp_audit_whole⟩
theorem se0_audit_whole (e : List (Nat × EffF)) (he : EG e) : SEOk (S0_audit_whole e) := seOk_of trivial trivial he.ok
theorem eq_audit_whole (e : List (Nat × EffF)) ( p0 K) : WP (S0_audit_whole e) 6 t_audit_whole [(.int .i64 p0)] K = wv_audit_whole p0 (fun r0 r1 => K (.agg [(.int .i64 r0), (.int .i64 r1)])) := by kernel_rfl
theorem ok_audit_whole (e : List (Nat × EffF)) (he : EG e) : OkF (E e) wp_audit_whole n_audit_whole := by
 intro as K h
 unfold wp_audit_whole pw_audit_whole at h
 split at h
 · exact WP_ok (se0_audit_whole e he) (LpOk_no (by kernel_rfl)) (by kernel_rfl) (by kernel_rfl) (fun _ => baseS_none (by kernel_rfl) _) (he.num _ (by kernel_rfl)) ((eq_audit_whole ..).mpr h)
 · exact h.elim
abbrev T_audit_claimed : Type := Int → Int → Int → Int → Int → Int → Int → Int → Int → (Int → Int → Int → Int → Int → Int → Bool → Bool → Prop) → Prop
def L_audit_claimed_0_0 (a0 : T_ratio_Check) (a1 : T_audit_order) (a2 : T_audit_whole) (x0 : List PV → Int → Int → Int → Int → Int → Int → Int → Int → Int → Int → Int → Int → Int → Int → Int → Bool → Int → Int → Bool → Prop) (x1 : List PV → Int → Int → Int → Int → Int → Int → Bool → Bool → Prop) : Nat → List PV → Int → Int → Int → Int → Int → Int → Int → Int → Int → Int → Int → Int → Int → Int → Int → Bool → Int → Int → Prop
 | 0, _, _, _, _, _, _, _, _, _, _, _, _, _, _, _, _, _, _, _ => False
 | n + 1, l0, i1, i2, i3, i4, i5, i6, i7, i8, i9, i10, i11, i12, i13, i14, i15, b16, i20, i21 =>
 (cbr (decide (i21 < i20))
 (asr (decide ((0 : Int) ≤ i21))
 (asr (decide (i21 < (((List.length l0) : Nat) : Int)))
 (asr (decide ((List.length l0) = (List.length l0)))
 (asr (decide ((0 + (i21.toNat)) < (List.length l0)))
 (lt (List.getD l0 (0 + (i21.toNat)) .nils) (fun yr7 =>
 (asr (conf (.agg [.i .i64, .i .i64]) yr7)
 (jn (fun (yj10 : Bool → Prop) =>
 (a0 (intOfV (cellAt yr7 0)) (intOfV (cellAt yr7 1)) (fun yi12 => 
 (cbr (yi12 != (0 : Int))
 (yj10 true)
 (yj10 (decide ((intOfV (cellAt yr7 0)) < (0 : Int))))))))
 (fun yb9 => (cbr yb9
 (x1 l0 (0 : Int) (0 : Int) (0 : Int) (0 : Int) (0 : Int) (0 : Int) false false)
 (lt (IntKind.i64.wrap (i21 + (1 : Int))) (fun yi11 =>
 (asr (decide ((List.length l0) = List.length l0) && decide ((List.length l0) = List.length l0) && decide ((List.length l0) = List.length l0))
 (L_audit_claimed_0_0 a0 a1 a2 x0 x1 n l0 i1 i2 i3 i4 i5 i6 i7 i8 i9 i10 i11 i12 i13 i14 i15 b16 i20 yi11))))))))))))))
 (x0 l0 i1 i2 i3 i4 i5 i6 i7 i8 i9 i10 i11 i12 i13 i14 i15 b16 i20 i21 false))
def wv_audit_claimed (a0 : T_ratio_Check) (a1 : T_audit_order) (a2 : T_audit_whole) (p0 p1 p2 p3 p4 p5 p6 p7 p8 : Int) (K : Int → Int → Int → Int → Int → Int → Bool → Bool → Prop) : Prop :=
 (asr (decide (3 = List.length ([(.agg [(.int .i64 p3), (.int .i64 p4)]), (.agg [(.int .i64 p5), (.int .i64 p6)]), (.agg [(.int .i64 p7), (.int .i64 p8)])] : List PV)) && decide (3 = List.length ([(.agg [(.int .i64 p3), (.int .i64 p4)]), (.agg [(.int .i64 p5), (.int .i64 p6)]), (.agg [(.int .i64 p7), (.int .i64 p8)])] : List PV)) && decide (3 = List.length ([(.agg [(.int .i64 p3), (.int .i64 p4)]), (.agg [(.int .i64 p5), (.int .i64 p6)]), (.agg [(.int .i64 p7), (.int .i64 p8)])] : List PV)))
 (∃ n : Nat, L_audit_claimed_0_0 a0 a1 a2
 (fun _ yi43 _ yi45 yi46 yi47 yi48 yi49 yi50 yi51 _ _ _ _ _ _ _ _ _ _ => (jn (fun (yj67 : Int → Int → Int → Int → Bool → Prop) =>
 (cbr (yi45 == (1 : Int))
 (yj67 yi48 yi49 yi50 yi51 false)
 (cbr (yi45 == (2 : Int))
 (yj67 yi50 yi51 yi48 yi49 true)
 (K (0 : Int) (0 : Int) (0 : Int) (0 : Int) (0 : Int) (0 : Int) false false))))
 (fun yi62 yi63 yi64 yi65 yb66 => (jn (fun (yj73 : Bool → Prop) =>
 (a1 yi46 yi47 yi62 yi63 (fun yi74 => 
 (cbr (decide (yi74 ≤ (0 : Int)))
 (a2 yi43 (fun yi75 yi76 => 
 (a1 yi62 yi63 yi75 yi76 (fun yi77 => 
 (yj73 (decide (yi77 ≤ (0 : Int))))))))
 (yj73 false)))))
 (fun yb72 => (K yi46 yi47 yi62 yi63 yi64 yi65 yb66 yb72))))))
 (fun _ yi79 yi80 yi81 yi82 yi83 yi84 yb85 yb86 => (K yi79 yi80 yi81 yi82 yi83 yi84 yb85 yb86))
 n ([(.agg [(.int .i64 p3), (.int .i64 p4)]), (.agg [(.int .i64 p5), (.int .i64 p6)]), (.agg [(.int .i64 p7), (.int .i64 p8)])] : List PV) p0 p1 p2 p3 p4 p5 p6 p7 p8 (0 : Int) (0 : Int) (0 : Int) (0 : Int) (0 : Int) (0 : Int) false (3 : Int) (0 : Int)))
def w_audit_claimed (p0 p1 p2 p3 p4 p5 p6 p7 p8 : Int) (K : Int → Int → Int → Int → Int → Int → Bool → Bool → Prop) : Prop := wv_audit_claimed w_ratio_Check w_audit_order w_audit_whole p0 p1 p2 p3 p4 p5 p6 p7 p8 K
def pw_audit_claimed (w : T_audit_claimed) (as : List PV) (K : PV → Prop) : Prop :=
 match as with
 | [(.int .i64 p0), (.agg [(.int .i64 p1), (.int .u8 p2), (.int .i64 p3), (.int .i64 p4), (.int .i64 p5), (.int .i64 p6), (.int .i64 p7), (.int .i64 p8)])] => w p0 p1 p2 p3 p4 p5 p6 p7 p8 (fun r0 r1 r2 r3 r4 r5 r6 r7 => K (.tup [(.agg [(.int .i64 r0), (.int .i64 r1), (.int .i64 r2), (.int .i64 r3), (.int .i64 r4), (.int .i64 r5), (.bool r6)]), (.bool r7)]))
 | _ => False
def wp_audit_claimed (as : List PV) (K : PV → Prop) : Prop := pw_audit_claimed w_audit_claimed as K
def D_audit_claimed_0 (F : Frm) (H : Hp) (A0 : List PV → Int → Int → Int → Int → Int → Int → Int → Int → Int → Int → Int → Int → Int → Int → Int → Bool → Int → Int → Prop) : Prop :=
 match F, H with
 | [(0, .v (.int .i64 i1)), (3, .box (.agg [(.int .i64 i2), (.int .u8 i3), (.int .i64 i4), (.int .i64 i5), (.int .i64 i6), (.int .i64 i7), (.int .i64 i8), (.int .i64 i9)])), (4, .box (.agg [(.int .i64 i10), (.int .i64 i11), (.int .i64 i12), (.int .i64 i13), (.int .i64 i14), (.int .i64 i15), (.bool b16)])), (15, .v (.own 0 0 t17 t18 (some t19))), (16, .v (.int .i64 i20)), (17, .v (.int .i64 i21))], [⟨false, true, 2, l0⟩] => asr (decide (t17 = List.length l0) && decide (t18 = List.length l0) && decide (t19 = List.length l0)) (A0 l0 i1 i2 i3 i4 i5 i6 i7 i8 i9 i10 i11 i12 i13 i14 i15 b16 i20 i21)
 | _, _ => False
def X_audit_claimed_0_0 (Q : Ex → Frm → Hp → Prop) : List PV → Int → Int → Int → Int → Int → Int → Int → Int → Int → Int → Int → Int → Int → Int → Int → Bool → Int → Int → Bool → Prop := (fun l0 i1 i2 i3 i4 i5 i6 i7 i8 i9 i10 i11 i12 i13 i14 i15 b16 i20 i21 b22 => Q (.exit 0) [(0, .v (.int .i64 i1)), (3, .box (.agg [(.int .i64 i2), (.int .u8 i3), (.int .i64 i4), (.int .i64 i5), (.int .i64 i6), (.int .i64 i7), (.int .i64 i8), (.int .i64 i9)])), (4, .box (.agg [(.int .i64 i10), (.int .i64 i11), (.int .i64 i12), (.int .i64 i13), (.int .i64 i14), (.int .i64 i15), (.bool b16)])), (15, .v (.own 0 0 (List.length l0) (List.length l0) (some (List.length l0)))), (16, .v (.int .i64 i20)), (17, .v (.int .i64 i21)), (18, .v (.bool b22))] [⟨false, true, 2, l0⟩])
def X_audit_claimed_0_1 (Q : Ex → Frm → Hp → Prop) : List PV → Int → Int → Int → Int → Int → Int → Bool → Bool → Prop := (fun l0 i1 i2 i3 i4 i5 i6 b7 b8 => Q .ret [(4, .box (.agg [(.int .i64 i1), (.int .i64 i2), (.int .i64 i3), (.int .i64 i4), (.int .i64 i5), (.int .i64 i6), (.bool b7)])), (5, .v (.bool b8))] [⟨false, true, 2, l0⟩])
def R_audit_claimed_0 (a0 : T_ratio_Check) (a1 : T_audit_order) (a2 : T_audit_whole) (Q : Ex → Frm → Hp → Prop) (n : Nat) (F : Frm) (H : Hp) : Prop := D_audit_claimed_0 F H (fun l0 i1 i2 i3 i4 i5 i6 i7 i8 i9 i10 i11 i12 i13 i14 i15 b16 i20 i21 => L_audit_claimed_0_0 a0 a1 a2 (X_audit_claimed_0_0 Q) (X_audit_claimed_0_1 Q) n l0 i1 i2 i3 i4 i5 i6 i7 i8 i9 i10 i11 i12 i13 i14 i15 b16 i20 i21)
def lp_audit_claimed (a0 : T_ratio_Check) (a1 : T_audit_order) (a2 : T_audit_whole) : LP := fun id F H Q =>
 bif Nat.beq id 42727200 then D_audit_claimed_0 F H (fun l0 i1 i2 i3 i4 i5 i6 i7 i8 i9 i10 i11 i12 i13 i14 i15 b16 i20 i21 => ∃ n : Nat, L_audit_claimed_0_0 a0 a1 a2 (X_audit_claimed_0_0 Q) (X_audit_claimed_0_1 Q) n l0 i1 i2 i3 i4 i5 i6 i7 i8 i9 i10 i11 i12 i13 i14 i15 b16 i20 i21) else
 False
def S0_audit_claimed (e : List (Nat × EffF)) (a0 : T_ratio_Check) (a1 : T_audit_order) (a2 : T_audit_whole) : SE := ⟨(E e), lookS [(n_ratio_Check, pw_ratio_Check a0), (n_audit_order, pw_audit_order a1), (n_audit_whole, pw_audit_whole a2)], lookI [], lp_audit_claimed a0 a1 a2⟩
theorem se0_audit_claimed (e : List (Nat × EffF)) (he : EG e) : SEOk (S0_audit_claimed e w_ratio_Check w_audit_order w_audit_whole) := seOk_of ⟨(ok_ratio_Check e he), (ok_audit_order e he), (ok_audit_whole e he), trivial⟩ trivial he.ok
theorem body_audit_claimed_0_0 (e : List (Nat × EffF)) (a0 a1 a2 Q n l0 i1 i2 i3 i4 i5 i6 i7 i8 i9 i10 i11 i12 i13 i14 i15 b16 i20 i21) : WC (E e) (callW (S0_audit_claimed e a0 a1 a2) 5) (lp_audit_claimed a0 a1 a2) b_42727200 [(0, .v (.int .i64 i1)), (3, .box (.agg [(.int .i64 i2), (.int .u8 i3), (.int .i64 i4), (.int .i64 i5), (.int .i64 i6), (.int .i64 i7), (.int .i64 i8), (.int .i64 i9)])), (4, .box (.agg [(.int .i64 i10), (.int .i64 i11), (.int .i64 i12), (.int .i64 i13), (.int .i64 i14), (.int .i64 i15), (.bool b16)])), (15, .v (.own 0 0 (List.length l0) (List.length l0) (some (List.length l0)))), (16, .v (.int .i64 i20)), (17, .v (.int .i64 i21))] [⟨false, true, 2, l0⟩] (fun x F' H' => match x with | .norm => R_audit_claimed_0 a0 a1 a2 Q n F' H' | .exit i => Q (.exit i) F' H' | .ret => Q .ret F' H') = L_audit_claimed_0_0 a0 a1 a2 (X_audit_claimed_0_0 Q) (X_audit_claimed_0_1 Q) (n + 1) l0 i1 i2 i3 i4 i5 i6 i7 i8 i9 i10 i11 i12 i13 i14 i15 b16 i20 i21 := by kernel_rfl
theorem lpb_audit_claimed_0 (e : List (Nat × EffF)) (_ : EG e) : LpOk (E e) (lp_audit_claimed w_ratio_Check w_audit_order w_audit_whole) b_42727200 := (LpOk_no (by kernel_rfl))
theorem loop_audit_claimed_0 (e : List (Nat × EffF)) (he : EG e) : ∀ F H Q, lp_audit_claimed w_ratio_Check w_audit_order w_audit_whole 42727200 F H Q → LoopT (E e) b_42727200 F H Q := by
 intro F H Q h
 have go := LoopT.intro (callW_ok (se0_audit_claimed e he) 5) (lpb_audit_claimed_0 e he) (R_audit_claimed_0 w_ratio_Check w_audit_order w_audit_whole Q) (by
   intro F H h
   unfold R_audit_claimed_0 D_audit_claimed_0 at h
   split at h
   · obtain ⟨hg, k⟩ := asr_iff.1 h
     clear h
     have h := k
     clear k
     try simp only [Bool.and_eq_true, decide_eq_true_eq] at hg
     obtain ⟨⟨g0, g1⟩, g2⟩ := hg; subst g0; subst g1; subst g2; exact h
   · exact h) (by
   intro n F H h
   unfold R_audit_claimed_0 D_audit_claimed_0 at h
   split at h
   · obtain ⟨hg, k⟩ := asr_iff.1 h
     clear h
     have h := k
     clear k
     try simp only [Bool.and_eq_true, decide_eq_true_eq] at hg
     obtain ⟨⟨g0, g1⟩, g2⟩ := hg; subst g0; subst g1; subst g2; exact (body_audit_claimed_0_0 ..).mpr h
   · exact h.elim)
 have h : D_audit_claimed_0 F H _ := h
 unfold D_audit_claimed_0 at h
 split at h
 · obtain ⟨hg, n, h⟩ := asr_iff.1 h; exact go n _ _ (asr_iff.2 ⟨hg, h⟩)
 · exact h.elim
theorem eq_audit_claimed (e : List (Nat × EffF)) (a0 a1 a2 p0 p1 p2 p3 p4 p5 p6 p7 p8 K) : WP (S0_audit_claimed e a0 a1 a2) 6 t_audit_claimed [(.int .i64 p0), (.agg [(.int .i64 p1), (.int .u8 p2), (.int .i64 p3), (.int .i64 p4), (.int .i64 p5), (.int .i64 p6), (.int .i64 p7), (.int .i64 p8)])] K = wv_audit_claimed a0 a1 a2 p0 p1 p2 p3 p4 p5 p6 p7 p8 (fun r0 r1 r2 r3 r4 r5 r6 r7 => K (.tup [(.agg [(.int .i64 r0), (.int .i64 r1), (.int .i64 r2), (.int .i64 r3), (.int .i64 r4), (.int .i64 r5), (.bool r6)]), (.bool r7)])) := by kernel_rfl
theorem ok_audit_claimed (e : List (Nat × EffF)) (he : EG e) : OkF (E e) wp_audit_claimed n_audit_claimed := by
 intro as K h
 unfold wp_audit_claimed pw_audit_claimed at h
 split at h
 · exact WP_ok (se0_audit_claimed e he) (LpOk_by (l := [(42727200, b_42727200)]) ⟨loop_audit_claimed_0 e he, trivial⟩ (by kernel_rfl)) (by kernel_rfl) (by kernel_rfl) (fun _ => baseS_none (by kernel_rfl) _) (he.num _ (by kernel_rfl)) ((eq_audit_claimed ..).mpr h)
 · exact h.elim
abbrev T_audit_claims : Type := Int → List PV → (List PV → Int → Prop) → Prop
mutual
def L_audit_claims_0_0 (a0 : T_audit_claimed) (x0 : Int → List PV → Int → Int → Bool → Prop) (x1 : Int → Prop) (x2 : List PV → Int → List PV → Int → Int → Bool → Prop) (x3 : List PV → Int → Prop) : Nat → Int → List PV → Int → Int → Prop
 | 0, _, _, _, _ => False
 | n + 1, i0, l1, i2, i3 =>
 (cbr (decide (i3 < i2))
 (asr (decide ((0 : Int) ≤ i3))
 (asr (decide (i3 < (((List.length l1) : Nat) : Int)))
 (lt (List.getD l1 (i3.toNat) .nils) (fun yr23 =>
 (asr (conf (.agg [.i .i64, .i .u8, .i .i64, .i .i64, .i .i64, .i .i64, .i .i64, .i .i64]) yr23)
 (a0 i0 (intOfV (cellAt yr23 0)) (intOfV (cellAt yr23 1)) (intOfV (cellAt yr23 2)) (intOfV (cellAt yr23 3)) (intOfV (cellAt yr23 4)) (intOfV (cellAt yr23 5)) (intOfV (cellAt yr23 6)) (intOfV (cellAt yr23 7)) (fun yi32 yi33 yi34 yi35 yi36 yi37 yb38 yb39 => 
 (cbr (!yb39)
 (x1 (8 : Int))
 (lt (IntKind.i64.wrap (i3 + (1 : Int))) (fun yi40 =>
 (asr (decide (1 = List.length ([(.agg [(.int .i64 yi32), (.int .i64 yi33), (.int .i64 yi34), (.int .i64 yi35), (.int .i64 yi36), (.int .i64 yi37), (.bool yb38)])] : List PV)) && decide (1 = List.length ([(.agg [(.int .i64 yi32), (.int .i64 yi33), (.int .i64 yi34), (.int .i64 yi35), (.int .i64 yi36), (.int .i64 yi37), (.bool yb38)])] : List PV)))
 (L_audit_claims_0_1 a0 x0 x1 x2 x3 n ([(.agg [(.int .i64 yi32), (.int .i64 yi33), (.int .i64 yi34), (.int .i64 yi35), (.int .i64 yi36), (.int .i64 yi37), (.bool yb38)])] : List PV) i0 l1 i2 yi40))))))))))))
 (x0 i0 l1 i2 i3 false))
def L_audit_claims_0_1 (a0 : T_audit_claimed) (x0 : Int → List PV → Int → Int → Bool → Prop) (x1 : Int → Prop) (x2 : List PV → Int → List PV → Int → Int → Bool → Prop) (x3 : List PV → Int → Prop) : Nat → List PV → Int → List PV → Int → Int → Prop
 | 0, _, _, _, _, _ => False
 | n + 1, l0, i1, l4, i5, i6 =>
 (cbr (decide (i6 < i5))
 (asr (decide ((0 : Int) ≤ i6))
 (asr (decide (i6 < (((List.length l4) : Nat) : Int)))
 (lt (List.getD l4 (i6.toNat) .nils) (fun yr60 =>
 (asr (conf (.agg [.i .i64, .i .u8, .i .i64, .i .i64, .i .i64, .i .i64, .i .i64, .i .i64]) yr60)
 (a0 i1 (intOfV (cellAt yr60 0)) (intOfV (cellAt yr60 1)) (intOfV (cellAt yr60 2)) (intOfV (cellAt yr60 3)) (intOfV (cellAt yr60 4)) (intOfV (cellAt yr60 5)) (intOfV (cellAt yr60 6)) (intOfV (cellAt yr60 7)) (fun yi69 yi70 yi71 yi72 yi73 yi74 yb75 yb76 => 
 (cbr (!yb76)
 (x3 l0 (8 : Int))
 (asr (decide ((List.length l0) = (List.length l0)))
 (asr (decide ((0 + (List.length l0)) ≤ (List.length l0)))
 (asr (!(decide (((0 + (List.length l0)) + 1) ≤ (List.length l0))))
 (asr (decide ((List.length l0) = (List.length l0)))
 (asr (decide ((((List.length l0) + 1) + 64) * (56 + 1) ≤ room))
 (lt (IntKind.i64.wrap (i6 + (1 : Int))) (fun yi77 =>
 (asr (decide ((List.length (l0 ++ ([(.agg [(.int .i64 yi69), (.int .i64 yi70), (.int .i64 yi71), (.int .i64 yi72), (.int .i64 yi73), (.int .i64 yi74), (.bool yb75)])] : List PV))) = List.length (l0 ++ ([(.agg [(.int .i64 yi69), (.int .i64 yi70), (.int .i64 yi71), (.int .i64 yi72), (.int .i64 yi73), (.int .i64 yi74), (.bool yb75)])] : List PV))) && decide ((List.length (l0 ++ ([(.agg [(.int .i64 yi69), (.int .i64 yi70), (.int .i64 yi71), (.int .i64 yi72), (.int .i64 yi73), (.int .i64 yi74), (.bool yb75)])] : List PV))) = List.length (l0 ++ ([(.agg [(.int .i64 yi69), (.int .i64 yi70), (.int .i64 yi71), (.int .i64 yi72), (.int .i64 yi73), (.int .i64 yi74), (.bool yb75)])] : List PV))))
 (L_audit_claims_0_1 a0 x0 x1 x2 x3 n (l0 ++ ([(.agg [(.int .i64 yi69), (.int .i64 yi70), (.int .i64 yi71), (.int .i64 yi72), (.int .i64 yi73), (.int .i64 yi74), (.bool yb75)])] : List PV)) i1 l4 i5 yi77)))))))))))))))))
 (x2 l0 i1 l4 i5 i6 false))
end
def wv_audit_claims (a0 : T_audit_claimed) (p0 : Int) (p1 : List PV) (K : List PV → Int → Prop) : Prop :=
 (jn (fun (yj3 : Bool → Prop) =>
 (cbr (decide (p0 < (1 : Int)))
 (yj3 true)
 (yj3 (decide (p0 > (1000 : Int))))))
 (fun yb2 => (cbr yb2
 (K ([] : List PV) (2 : Int))
 (cbr (decide ((((List.length p1) : Nat) : Int) > (40 : Int)))
 (K ([] : List PV) (4 : Int))
 (∃ n : Nat, L_audit_claims_0_0 a0
 (fun _ _ _ _ _ => (K ([] : List PV) (0 : Int)))
 (fun yi97 => (K ([] : List PV) yi97))
 (fun yl98 _ _ _ _ _ => (asr (decide ((List.length yl98) = (List.length yl98)))
 (asr (decide ((0 + (List.length yl98)) ≤ (List.length yl98)))
 (K (List.take (List.length yl98) yl98) (0 : Int)))))
 (fun _ yi105 => (K ([] : List PV) yi105))
 n p0 p1 (((List.length p1) : Nat) : Int) (0 : Int))))))
def w_audit_claims (p0 : Int) (p1 : List PV) (K : List PV → Int → Prop) : Prop := wv_audit_claims w_audit_claimed p0 p1 K
def pw_audit_claims (w : T_audit_claims) (as : List PV) (K : PV → Prop) : Prop :=
 match as with
 | [(.int .i64 p0), (.data p1)] => w p0 p1 (fun r0 r1 => K (.tup [(.data r0), (.int .i64 r1)]))
 | _ => False
def wp_audit_claims (as : List PV) (K : PV → Prop) : Prop := pw_audit_claims w_audit_claims as K
def D_audit_claims_0 (F : Frm) (H : Hp) (A0 : Int → List PV → Int → Int → Prop) (A1 : List PV → Int → List PV → Int → Int → Prop) : Prop :=
 match F, H with
 | [(0, .v (.int .i64 i0)), (6, .v .nils), (20, .v (.data l1)), (21, .v (.int .i64 i2)), (22, .v (.int .i64 i3))], [] => (A0 i0 l1 i2 i3)
 | [(0, .v (.int .i64 i1)), (6, .v (.own 0 0 t2 t3 none)), (20, .v (.data l4)), (21, .v (.int .i64 i5)), (22, .v (.int .i64 i6))], [⟨false, true, 7, l0⟩] => asr (decide (t2 = List.length l0) && decide (t3 = List.length l0)) (A1 l0 i1 l4 i5 i6)
 | _, _ => False
def X_audit_claims_0_0 (Q : Ex → Frm → Hp → Prop) : Int → List PV → Int → Int → Bool → Prop := (fun i0 l1 i2 i3 b4 => Q (.exit 0) [(0, .v (.int .i64 i0)), (6, .v .nils), (20, .v (.data l1)), (21, .v (.int .i64 i2)), (22, .v (.int .i64 i3)), (23, .v (.bool b4))] [])
def X_audit_claims_0_1 (Q : Ex → Frm → Hp → Prop) : Int → Prop := (fun i0 => Q .ret [(4, .v .nils), (5, .v (.int .i64 i0))] [])
def X_audit_claims_0_2 (Q : Ex → Frm → Hp → Prop) : List PV → Int → List PV → Int → Int → Bool → Prop := (fun l0 i1 l4 i5 i6 b7 => Q (.exit 0) [(0, .v (.int .i64 i1)), (6, .v (.own 0 0 (List.length l0) (List.length l0) none)), (20, .v (.data l4)), (21, .v (.int .i64 i5)), (22, .v (.int .i64 i6)), (23, .v (.bool b7))] [⟨false, true, 7, l0⟩])
def X_audit_claims_0_3 (Q : Ex → Frm → Hp → Prop) : List PV → Int → Prop := (fun l0 i1 => Q .ret [(4, .v .nils), (5, .v (.int .i64 i1))] [⟨false, true, 7, l0⟩])
def R_audit_claims_0 (a0 : T_audit_claimed) (Q : Ex → Frm → Hp → Prop) (n : Nat) (F : Frm) (H : Hp) : Prop := D_audit_claims_0 F H (fun i0 l1 i2 i3 => L_audit_claims_0_0 a0 (X_audit_claims_0_0 Q) (X_audit_claims_0_1 Q) (X_audit_claims_0_2 Q) (X_audit_claims_0_3 Q) n i0 l1 i2 i3) (fun l0 i1 l4 i5 i6 => L_audit_claims_0_1 a0 (X_audit_claims_0_0 Q) (X_audit_claims_0_1 Q) (X_audit_claims_0_2 Q) (X_audit_claims_0_3 Q) n l0 i1 l4 i5 i6)
def lp_audit_claims (a0 : T_audit_claimed) : LP := fun id F H Q =>
 bif Nat.beq id 52235000 then D_audit_claims_0 F H (fun i0 l1 i2 i3 => ∃ n : Nat, L_audit_claims_0_0 a0 (X_audit_claims_0_0 Q) (X_audit_claims_0_1 Q) (X_audit_claims_0_2 Q) (X_audit_claims_0_3 Q) n i0 l1 i2 i3) (fun l0 i1 l4 i5 i6 => ∃ n : Nat, L_audit_claims_0_1 a0 (X_audit_claims_0_0 Q) (X_audit_claims_0_1 Q) (X_audit_claims_0_2 Q) (X_audit_claims_0_3 Q) n l0 i1 l4 i5 i6) else
 False
def S0_audit_claims (e : List (Nat × EffF)) (a0 : T_audit_claimed) : SE := ⟨(E e), lookS [(n_audit_claimed, pw_audit_claimed a0)], lookI [], lp_audit_claims a0⟩
theorem se0_audit_claims (e : List (Nat × EffF)) (he : EG e) : SEOk (S0_audit_claims e w_audit_claimed) := seOk_of ⟨(ok_audit_claimed e he), trivial⟩ trivial he.ok
theorem body_audit_claims_0_0 (e : List (Nat × EffF)) (a0 Q n i0 l1 i2 i3) : WC (E e) (callW (S0_audit_claims e a0) 5) (lp_audit_claims a0) b_52235000 [(0, .v (.int .i64 i0)), (6, .v .nils), (20, .v (.data l1)), (21, .v (.int .i64 i2)), (22, .v (.int .i64 i3))] [] (fun x F' H' => match x with | .norm => R_audit_claims_0 a0 Q n F' H' | .exit i => Q (.exit i) F' H' | .ret => Q .ret F' H') = L_audit_claims_0_0 a0 (X_audit_claims_0_0 Q) (X_audit_claims_0_1 Q) (X_audit_claims_0_2 Q) (X_audit_claims_0_3 Q) (n + 1) i0 l1 i2 i3 := by kernel_rfl
theorem body_audit_claims_0_1 (e : List (Nat × EffF)) (a0 Q n l0 i1 l4 i5 i6) : WC (E e) (callW (S0_audit_claims e a0) 5) (lp_audit_claims a0) b_52235000 [(0, .v (.int .i64 i1)), (6, .v (.own 0 0 (List.length l0) (List.length l0) none)), (20, .v (.data l4)), (21, .v (.int .i64 i5)), (22, .v (.int .i64 i6))] [⟨false, true, 7, l0⟩] (fun x F' H' => match x with | .norm => R_audit_claims_0 a0 Q n F' H' | .exit i => Q (.exit i) F' H' | .ret => Q .ret F' H') = L_audit_claims_0_1 a0 (X_audit_claims_0_0 Q) (X_audit_claims_0_1 Q) (X_audit_claims_0_2 Q) (X_audit_claims_0_3 Q) (n + 1) l0 i1 l4 i5 i6 := by kernel_rfl
theorem lpb_audit_claims_0 (e : List (Nat × EffF)) (_ : EG e) : LpOk (E e) (lp_audit_claims w_audit_claimed) b_52235000 := (LpOk_no (by kernel_rfl))
theorem loop_audit_claims_0 (e : List (Nat × EffF)) (he : EG e) : ∀ F H Q, lp_audit_claims w_audit_claimed 52235000 F H Q → LoopT (E e) b_52235000 F H Q := by
 intro F H Q h
 have go := LoopT.intro (callW_ok (se0_audit_claims e he) 5) (lpb_audit_claims_0 e he) (R_audit_claims_0 w_audit_claimed Q) (by
   intro F H h
   unfold R_audit_claims_0 D_audit_claims_0 at h
   split at h
   · exact h
   · obtain ⟨hg, k⟩ := asr_iff.1 h
     clear h
     have h := k
     clear k
     try simp only [Bool.and_eq_true, decide_eq_true_eq] at hg
     obtain ⟨g0, g1⟩ := hg; subst g0; subst g1; exact h
   · exact h) (by
   intro n F H h
   unfold R_audit_claims_0 D_audit_claims_0 at h
   split at h
   · exact (body_audit_claims_0_0 ..).mpr h
   · obtain ⟨hg, k⟩ := asr_iff.1 h
     clear h
     have h := k
     clear k
     try simp only [Bool.and_eq_true, decide_eq_true_eq] at hg
     obtain ⟨g0, g1⟩ := hg; subst g0; subst g1; exact (body_audit_claims_0_1 ..).mpr h
   · exact h.elim)
 have h : D_audit_claims_0 F H _ _ := h
 unfold D_audit_claims_0 at h
 split at h
 · obtain ⟨n, h⟩ := h; exact go n _ _ h
 · obtain ⟨hg, n, h⟩ := asr_iff.1 h; exact go n _ _ (asr_iff.2 ⟨hg, h⟩)
 · exact h.elim
theorem eq_audit_claims (e : List (Nat × EffF)) (a0 p0 p1 K) : WP (S0_audit_claims e a0) 6 t_audit_claims [(.int .i64 p0), (.data p1)] K = wv_audit_claims a0 p0 p1 (fun r0 r1 => K (.tup [(.data r0), (.int .i64 r1)])) := by kernel_rfl
theorem ok_audit_claims (e : List (Nat × EffF)) (he : EG e) : OkF (E e) wp_audit_claims n_audit_claims := by
 intro as K h
 unfold wp_audit_claims pw_audit_claims at h
 split at h
 · exact WP_ok (se0_audit_claims e he) (LpOk_by (l := [(52235000, b_52235000)]) ⟨loop_audit_claims_0 e he, trivial⟩ (by kernel_rfl)) (by kernel_rfl) (by kernel_rfl) (fun _ => baseS_none (by kernel_rfl) _) (he.num _ (by kernel_rfl)) ((eq_audit_claims ..).mpr h)
 · exact h.elim
abbrev T_audit_scale : Type := List PV → (Int → Int → Prop) → Prop
def L_audit_scale_1_0 (x49126300_0 : List PV → Int → Int → Int → Int → Int → Int → Int → Bool → Int → Int → List PV → Int → Int → Bool → Prop) : Nat → List PV → Int → Int → Int → Int → Int → Int → Int → Bool → Int → Int → List PV → Int → Int → Prop
 | 0, _, _, _, _, _, _, _, _, _, _, _, _, _, _ => False
 | n49126300 + 1, l0, i1, i2, i3, i4, i5, i6, i7, b8, i9, i10, l11, i12, i13 =>
 (cbr (decide (i10 > (0 : Int)))
 (asr (!(decide (i10 = (0 : Int))))
 (lt (Int.tmod i9 i10) (fun yi2 =>
 (L_audit_scale_1_0 x49126300_0 n49126300 l0 i1 i2 i3 i4 i5 i6 i7 b8 i10 yi2 l11 i12 i13))))
 (x49126300_0 l0 i1 i2 i3 i4 i5 i6 i7 b8 i9 i10 l11 i12 i13 false))
def L_audit_scale_2_0 (x49126302_0 : Int → List PV → Int → Int → Bool → Prop) (x49126302_1 : Int → Int → Prop) : Nat → Int → List PV → Int → Int → Prop
 | 0, _, _, _, _ => False
 | n49126302 + 1, i0, l1, i2, i3 =>
 (cbr (decide (i3 < i2))
 (asr (decide ((0 : Int) ≤ i3))
 (asr (decide (i3 < (((List.length l1) : Nat) : Int)))
 (lt (List.getD l1 (i3.toNat) .nils) (fun yr101 =>
 (asr (conf (.agg [.i .i64, .i .i64, .i .i64, .i .i64, .i .i64, .i .i64, .b]) yr101)
 (asr (!(decide ((intOfV (cellAt yr101 5)) = (0 : Int))))
 (lt (IntKind.i64.wrap (Int.tdiv i0 (intOfV (cellAt yr101 5)))) (fun yi104 =>
 (asr (!(decide (yi104 = (0 : Int))))
 (lt (IntKind.i64.wrap (Int.tdiv (1000000000000 : Int) yi104)) (fun yi105 =>
 (cbr (decide ((intOfV (cellAt yr101 4)) > yi105))
 (x49126302_1 (0 : Int) (16 : Int))
 (lt (IntKind.i64.wrap (i3 + (1 : Int))) (fun yi106 =>
 (L_audit_scale_2_0 x49126302_0 x49126302_1 n49126302 i0 l1 i2 yi106)))))))))))))))
 (x49126302_0 i0 l1 i2 i3 false))
def L_audit_scale_0_0 (x49126301_0 : List PV → Int → List PV → Int → Int → Bool → Prop) (x49126301_1 : Int → Int → Prop) : Nat → List PV → Int → List PV → Int → Int → Prop
 | 0, _, _, _, _, _ => False
 | n49126301 + 1, l0, i1, l2, i3, i4 =>
 (cbr (decide (i4 < i3))
 (asr (decide ((0 : Int) ≤ i4))
 (asr (decide (i4 < (((List.length l2) : Nat) : Int)))
 (lt (List.getD l2 (i4.toNat) .nils) (fun yr41 =>
 (asr (conf (.agg [.i .i64, .i .i64, .i .i64, .i .i64, .i .i64, .i .i64, .b]) yr41)
 (∃ n49126300 : Nat, L_audit_scale_1_0
 (fun yl57 yi58 _ _ _ _ _ yi64 _ yi66 _ yl68 yi69 yi70 _ => (asr (!(decide (yi66 = (0 : Int))))
 (lt (IntKind.i64.wrap (Int.tdiv yi64 yi66)) (fun yi73 =>
 (asr (!(decide (yi58 = (0 : Int))))
 (lt (IntKind.i64.wrap (Int.tdiv (1000000000 : Int) yi58)) (fun yi77 =>
 (cbr (decide (yi73 > yi77))
 (x49126301_1 (0 : Int) (16 : Int))
 (lt (IntKind.i64.wrap (yi58 * yi73)) (fun yi78 =>
 (lt (IntKind.i64.wrap (yi70 + (1 : Int))) (fun yi79 =>
 (L_audit_scale_0_0 x49126301_0 x49126301_1 n49126301 yl57 yi78 yl68 yi69 yi79)))))))))))))
 n49126300 l0 i1 (intOfV (cellAt yr41 0)) (intOfV (cellAt yr41 1)) (intOfV (cellAt yr41 2)) (intOfV (cellAt yr41 3)) (intOfV (cellAt yr41 4)) (intOfV (cellAt yr41 5)) (boolOfV (cellAt yr41 6)) i1 (intOfV (cellAt yr41 5)) l2 i3 i4))))))
 (x49126301_0 l0 i1 l2 i3 i4 false))
def wv_audit_scale (p0 : List PV) (K : Int → Int → Prop) : Prop :=
 (∃ n49126301 : Nat, L_audit_scale_0_0
 (fun yl88 yi89 _ _ _ _ => (∃ n49126302 : Nat, L_audit_scale_2_0
 (fun yi114 _ _ _ _ => (K yi114 (0 : Int)))
 (fun yi119 yi120 => (K yi119 yi120))
 n49126302 yi89 yl88 (((List.length yl88) : Nat) : Int) (0 : Int)))
 (fun yi121 yi122 => (K yi121 yi122))
 n49126301 p0 (1 : Int) p0 (((List.length p0) : Nat) : Int) (0 : Int))
def w_audit_scale (p0 : List PV) (K : Int → Int → Prop) : Prop := wv_audit_scale p0 K
def pw_audit_scale (w : T_audit_scale) (as : List PV) (K : PV → Prop) : Prop :=
 match as with
 | [(.data p0)] => w p0 (fun r0 r1 => K (.tup [(.int .i64 r0), (.int .i64 r1)]))
 | _ => False
def wp_audit_scale (as : List PV) (K : PV → Prop) : Prop := pw_audit_scale w_audit_scale as K
def D_audit_scale_1 (F : Frm) (H : Hp) (A0 : List PV → Int → Int → Int → Int → Int → Int → Int → Bool → Int → Int → List PV → Int → Int → Prop) : Prop :=
 match F, H with
 | [(0, .v (.data l0)), (4, .v (.int .i64 i1)), (6, .box (.agg [(.int .i64 i2), (.int .i64 i3), (.int .i64 i4), (.int .i64 i5), (.int .i64 i6), (.int .i64 i7), (.bool b8)])), (7, .v (.int .i64 i9)), (8, .v (.int .i64 i10)), (12, .v (.data l11)), (13, .v (.int .i64 i12)), (14, .v (.int .i64 i13))], [] => (A0 l0 i1 i2 i3 i4 i5 i6 i7 b8 i9 i10 l11 i12 i13)
 | _, _ => False
def D_audit_scale_2 (F : Frm) (H : Hp) (A0 : Int → List PV → Int → Int → Prop) : Prop :=
 match F, H with
 | [(4, .v (.int .i64 i0)), (41, .v (.data l1)), (42, .v (.int .i64 i2)), (43, .v (.int .i64 i3))], [] => (A0 i0 l1 i2 i3)
 | _, _ => False
def D_audit_scale_0 (F : Frm) (H : Hp) (A0 : List PV → Int → List PV → Int → Int → Prop) : Prop :=
 match F, H with
 | [(0, .v (.data l0)), (4, .v (.int .i64 i1)), (12, .v (.data l2)), (13, .v (.int .i64 i3)), (14, .v (.int .i64 i4))], [] => (A0 l0 i1 l2 i3 i4)
 | _, _ => False
def X_audit_scale_1_0 (Q : Ex → Frm → Hp → Prop) : List PV → Int → Int → Int → Int → Int → Int → Int → Bool → Int → Int → List PV → Int → Int → Bool → Prop := (fun l0 i1 i2 i3 i4 i5 i6 i7 b8 i9 i10 l11 i12 i13 b14 => Q (.exit 2) [(0, .v (.data l0)), (4, .v (.int .i64 i1)), (6, .box (.agg [(.int .i64 i2), (.int .i64 i3), (.int .i64 i4), (.int .i64 i5), (.int .i64 i6), (.int .i64 i7), (.bool b8)])), (7, .v (.int .i64 i9)), (8, .v (.int .i64 i10)), (12, .v (.data l11)), (13, .v (.int .i64 i12)), (14, .v (.int .i64 i13)), (23, .v (.bool b14))] [])
def X_audit_scale_2_0 (Q : Ex → Frm → Hp → Prop) : Int → List PV → Int → Int → Bool → Prop := (fun i0 l1 i2 i3 b4 => Q (.exit 4) [(4, .v (.int .i64 i0)), (41, .v (.data l1)), (42, .v (.int .i64 i2)), (43, .v (.int .i64 i3)), (44, .v (.bool b4))] [])
def X_audit_scale_2_1 (Q : Ex → Frm → Hp → Prop) : Int → Int → Prop := (fun i0 i1 => Q .ret [(2, .v (.int .i64 i0)), (3, .v (.int .i64 i1))] [])
def X_audit_scale_0_0 (Q : Ex → Frm → Hp → Prop) : List PV → Int → List PV → Int → Int → Bool → Prop := (fun l0 i1 l2 i3 i4 b5 => Q (.exit 0) [(0, .v (.data l0)), (4, .v (.int .i64 i1)), (12, .v (.data l2)), (13, .v (.int .i64 i3)), (14, .v (.int .i64 i4)), (15, .v (.bool b5))] [])
def X_audit_scale_0_1 (Q : Ex → Frm → Hp → Prop) : Int → Int → Prop := (fun i0 i1 => Q .ret [(2, .v (.int .i64 i0)), (3, .v (.int .i64 i1))] [])
def R_audit_scale_1 (Q : Ex → Frm → Hp → Prop) (n : Nat) (F : Frm) (H : Hp) : Prop := D_audit_scale_1 F H (fun l0 i1 i2 i3 i4 i5 i6 i7 b8 i9 i10 l11 i12 i13 => L_audit_scale_1_0 (X_audit_scale_1_0 Q) n l0 i1 i2 i3 i4 i5 i6 i7 b8 i9 i10 l11 i12 i13)
def R_audit_scale_2 (Q : Ex → Frm → Hp → Prop) (n : Nat) (F : Frm) (H : Hp) : Prop := D_audit_scale_2 F H (fun i0 l1 i2 i3 => L_audit_scale_2_0 (X_audit_scale_2_0 Q) (X_audit_scale_2_1 Q) n i0 l1 i2 i3)
def R_audit_scale_0 (Q : Ex → Frm → Hp → Prop) (n : Nat) (F : Frm) (H : Hp) : Prop := D_audit_scale_0 F H (fun l0 i1 l2 i3 i4 => L_audit_scale_0_0 (X_audit_scale_0_0 Q) (X_audit_scale_0_1 Q) n l0 i1 l2 i3 i4)
def lp_audit_scale : LP := fun id F H Q =>
 bif Nat.beq id 49126300 then D_audit_scale_1 F H (fun l0 i1 i2 i3 i4 i5 i6 i7 b8 i9 i10 l11 i12 i13 => ∃ n : Nat, L_audit_scale_1_0 (X_audit_scale_1_0 Q) n l0 i1 i2 i3 i4 i5 i6 i7 b8 i9 i10 l11 i12 i13) else
 bif Nat.beq id 49126302 then D_audit_scale_2 F H (fun i0 l1 i2 i3 => ∃ n : Nat, L_audit_scale_2_0 (X_audit_scale_2_0 Q) (X_audit_scale_2_1 Q) n i0 l1 i2 i3) else
 bif Nat.beq id 49126301 then D_audit_scale_0 F H (fun l0 i1 l2 i3 i4 => ∃ n : Nat, L_audit_scale_0_0 (X_audit_scale_0_0 Q) (X_audit_scale_0_1 Q) n l0 i1 l2 i3 i4) else
 False
def S0_audit_scale (e : List (Nat × EffF)) : SE := ⟨(E e), lookS [], lookI [], lp_audit_scale⟩
theorem se0_audit_scale (e : List (Nat × EffF)) (he : EG e) : SEOk (S0_audit_scale e) := seOk_of trivial trivial he.ok
theorem body_audit_scale_1_0 (e : List (Nat × EffF)) ( Q n l0 i1 i2 i3 i4 i5 i6 i7 b8 i9 i10 l11 i12 i13) : WC (E e) (callW (S0_audit_scale e) 5) (lp_audit_scale) b_49126300 [(0, .v (.data l0)), (4, .v (.int .i64 i1)), (6, .box (.agg [(.int .i64 i2), (.int .i64 i3), (.int .i64 i4), (.int .i64 i5), (.int .i64 i6), (.int .i64 i7), (.bool b8)])), (7, .v (.int .i64 i9)), (8, .v (.int .i64 i10)), (12, .v (.data l11)), (13, .v (.int .i64 i12)), (14, .v (.int .i64 i13))] [] (fun x F' H' => match x with | .norm => R_audit_scale_1 Q n F' H' | .exit i => Q (.exit i) F' H' | .ret => Q .ret F' H') = L_audit_scale_1_0 (X_audit_scale_1_0 Q) (n + 1) l0 i1 i2 i3 i4 i5 i6 i7 b8 i9 i10 l11 i12 i13 := by kernel_rfl
theorem lpb_audit_scale_1 (e : List (Nat × EffF)) (_ : EG e) : LpOk (E e) (lp_audit_scale) b_49126300 := (LpOk_no (by kernel_rfl))
theorem loop_audit_scale_1 (e : List (Nat × EffF)) (he : EG e) : ∀ F H Q, lp_audit_scale 49126300 F H Q → LoopT (E e) b_49126300 F H Q := by
 intro F H Q h
 have go := LoopT.intro (callW_ok (se0_audit_scale e he) 5) (lpb_audit_scale_1 e he) (R_audit_scale_1 Q) (by
   intro F H h
   unfold R_audit_scale_1 D_audit_scale_1 at h
   split at h
   · exact h
   · exact h) (by
   intro n F H h
   unfold R_audit_scale_1 D_audit_scale_1 at h
   split at h
   · exact (body_audit_scale_1_0 ..).mpr h
   · exact h.elim)
 have h : D_audit_scale_1 F H _ := h
 unfold D_audit_scale_1 at h
 split at h
 · obtain ⟨n, h⟩ := h; exact go n _ _ h
 · exact h.elim
theorem body_audit_scale_2_0 (e : List (Nat × EffF)) ( Q n i0 l1 i2 i3) : WC (E e) (callW (S0_audit_scale e) 5) (lp_audit_scale) b_49126302 [(4, .v (.int .i64 i0)), (41, .v (.data l1)), (42, .v (.int .i64 i2)), (43, .v (.int .i64 i3))] [] (fun x F' H' => match x with | .norm => R_audit_scale_2 Q n F' H' | .exit i => Q (.exit i) F' H' | .ret => Q .ret F' H') = L_audit_scale_2_0 (X_audit_scale_2_0 Q) (X_audit_scale_2_1 Q) (n + 1) i0 l1 i2 i3 := by kernel_rfl
theorem lpb_audit_scale_2 (e : List (Nat × EffF)) (_ : EG e) : LpOk (E e) (lp_audit_scale) b_49126302 := (LpOk_no (by kernel_rfl))
theorem loop_audit_scale_2 (e : List (Nat × EffF)) (he : EG e) : ∀ F H Q, lp_audit_scale 49126302 F H Q → LoopT (E e) b_49126302 F H Q := by
 intro F H Q h
 have go := LoopT.intro (callW_ok (se0_audit_scale e he) 5) (lpb_audit_scale_2 e he) (R_audit_scale_2 Q) (by
   intro F H h
   unfold R_audit_scale_2 D_audit_scale_2 at h
   split at h
   · exact h
   · exact h) (by
   intro n F H h
   unfold R_audit_scale_2 D_audit_scale_2 at h
   split at h
   · exact (body_audit_scale_2_0 ..).mpr h
   · exact h.elim)
 have h : D_audit_scale_2 F H _ := h
 unfold D_audit_scale_2 at h
 split at h
 · obtain ⟨n, h⟩ := h; exact go n _ _ h
 · exact h.elim
theorem body_audit_scale_0_0 (e : List (Nat × EffF)) ( Q n l0 i1 l2 i3 i4) : WC (E e) (callW (S0_audit_scale e) 5) (lp_audit_scale) b_49126301 [(0, .v (.data l0)), (4, .v (.int .i64 i1)), (12, .v (.data l2)), (13, .v (.int .i64 i3)), (14, .v (.int .i64 i4))] [] (fun x F' H' => match x with | .norm => R_audit_scale_0 Q n F' H' | .exit i => Q (.exit i) F' H' | .ret => Q .ret F' H') = L_audit_scale_0_0 (X_audit_scale_0_0 Q) (X_audit_scale_0_1 Q) (n + 1) l0 i1 l2 i3 i4 := by kernel_rfl
theorem lpb_audit_scale_0 (e : List (Nat × EffF)) (he : EG e) : LpOk (E e) (lp_audit_scale) b_49126301 := (LpOk_by (l := [(49126300, b_49126300)]) ⟨loop_audit_scale_1 e he, trivial⟩ (by kernel_rfl))
theorem loop_audit_scale_0 (e : List (Nat × EffF)) (he : EG e) : ∀ F H Q, lp_audit_scale 49126301 F H Q → LoopT (E e) b_49126301 F H Q := by
 intro F H Q h
 have go := LoopT.intro (callW_ok (se0_audit_scale e he) 5) (lpb_audit_scale_0 e he) (R_audit_scale_0 Q) (by
   intro F H h
   unfold R_audit_scale_0 D_audit_scale_0 at h
   split at h
   · exact h
   · exact h) (by
   intro n F H h
   unfold R_audit_scale_0 D_audit_scale_0 at h
   split at h
   · exact (body_audit_scale_0_0 ..).mpr h
   · exact h.elim)
 have h : D_audit_scale_0 F H _ := h
 unfold D_audit_scale_0 at h
 split at h
 · obtain ⟨n, h⟩ := h; exact go n _ _ h
 · exact h.elim
theorem eq_audit_scale (e : List (Nat × EffF)) ( p0 K) : WP (S0_audit_scale e) 6 t_audit_scale [(.data p0)] K = wv_audit_scale p0 (fun r0 r1 => K (.tup [(.int .i64 r0), (.int .i64 r1)])) := by kernel_rfl
theorem ok_audit_scale (e : List (Nat × EffF)) (he : EG e) : OkF (E e) wp_audit_scale n_audit_scale := by
 intro as K h
 unfold wp_audit_scale pw_audit_scale at h
 split at h
 · exact WP_ok (se0_audit_scale e he) (LpOk_by (l := [(49126300, b_49126300), (49126301, b_49126301), (49126302, b_49126302)]) ⟨loop_audit_scale_1 e he, loop_audit_scale_0 e he, loop_audit_scale_2 e he, trivial⟩ (by kernel_rfl)) (by kernel_rfl) (by kernel_rfl) (fun _ => baseS_none (by kernel_rfl) _) (he.num _ (by kernel_rfl)) ((eq_audit_scale ..).mpr h)
 · exact h.elim
abbrev T_audit_pointsOf : Type := Int → List PV → (List PV → Prop) → Prop
def L_audit_pointsOf_0_0 (a0 : T_audit_whole) (x86101800_0 : List PV → List PV → Int → Int → Bool → Prop) : Nat → List PV → List PV → Int → Int → Prop
 | 0, _, _, _, _ => False
 | n86101800 + 1, l0, l3, i4, i5 =>
 (cbr (decide (i5 < i4))
 (asr (decide ((0 : Int) ≤ i5))
 (asr (decide (i5 < (((List.length l3) : Nat) : Int)))
 (lt (List.getD l3 (i5.toNat) .nils) (fun yr11 =>
 (asr (conf (.agg [.i .i64, .i .i64, .i .i64, .i .i64, .i .i64, .i .i64, .b]) yr11)
 (asr (decide ((List.length l0) = (List.length l0)))
 (asr (decide ((0 + (List.length l0)) ≤ (List.length l0)))
 (asr (!(decide (((0 + (List.length l0)) + 2) ≤ (List.length l0))))
 (asr (decide ((List.length l0) = (List.length l0)))
 (asr (decide ((((List.length l0) + 2) + 64) * (16 + 1) ≤ room))
 (lt (IntKind.i64.wrap (i5 + (1 : Int))) (fun yi12 =>
 (asr (decide ((List.length (l0 ++ ([(.agg [(.int .i64 (intOfV (cellAt yr11 0))), (.int .i64 (intOfV (cellAt yr11 1)))]), (.agg [(.int .i64 (intOfV (cellAt yr11 2))), (.int .i64 (intOfV (cellAt yr11 3)))])] : List PV))) = List.length (l0 ++ ([(.agg [(.int .i64 (intOfV (cellAt yr11 0))), (.int .i64 (intOfV (cellAt yr11 1)))]), (.agg [(.int .i64 (intOfV (cellAt yr11 2))), (.int .i64 (intOfV (cellAt yr11 3)))])] : List PV))) && decide ((List.length (l0 ++ ([(.agg [(.int .i64 (intOfV (cellAt yr11 0))), (.int .i64 (intOfV (cellAt yr11 1)))]), (.agg [(.int .i64 (intOfV (cellAt yr11 2))), (.int .i64 (intOfV (cellAt yr11 3)))])] : List PV))) = List.length (l0 ++ ([(.agg [(.int .i64 (intOfV (cellAt yr11 0))), (.int .i64 (intOfV (cellAt yr11 1)))]), (.agg [(.int .i64 (intOfV (cellAt yr11 2))), (.int .i64 (intOfV (cellAt yr11 3)))])] : List PV))))
 (L_audit_pointsOf_0_0 a0 x86101800_0 n86101800 (l0 ++ ([(.agg [(.int .i64 (intOfV (cellAt yr11 0))), (.int .i64 (intOfV (cellAt yr11 1)))]), (.agg [(.int .i64 (intOfV (cellAt yr11 2))), (.int .i64 (intOfV (cellAt yr11 3)))])] : List PV)) l3 i4 yi12))))))))))))))
 (x86101800_0 l0 l3 i4 i5 false))
def L_audit_pointsOf_2_0 (a0 : T_audit_whole) (x36914300_0 : List PV → Nat → Nat → Int → Nat → Nat → Nat → Int → Bool → Prop) : Nat → List PV → Nat → Nat → Int → Nat → Nat → Nat → Int → Prop
 | 0, _, _, _, _, _, _, _, _ => False
 | n36914300 + 1, l0, n1, n2, i3, n4, n5, n6, i7 =>
 (cbr (decide (i7 < ((n5 : Nat) : Int)))
 (jn (fun (yj43 : List PV → Int → Prop) =>
 (asr (decide ((0 : Int) ≤ i7))
 (asr (decide (i7 < ((n5 : Nat) : Int)))
 (asr (decide ((List.length l0) = n6))
 (asr (decide ((n4 + (i7.toNat)) < (List.length l0)))
 (lt (List.getD l0 (n4 + (i7.toNat)) .nils) (fun yr48 =>
 (asr (conf (.agg [.i .i64, .i .i64]) yr48)
 (lt (IntKind.i64.wrap (i7 - (1 : Int))) (fun yi49 =>
 (asr (decide ((0 : Int) ≤ yi49))
 (asr (decide (yi49 < ((n5 : Nat) : Int)))
 (asr (decide ((List.length l0) = n6))
 (asr (decide ((n4 + (yi49.toNat)) < (List.length l0)))
 (lt (List.getD l0 (n4 + (yi49.toNat)) .nils) (fun yr50 =>
 (asr (conf (.agg [.i .i64, .i .i64]) yr50)
 (cbr (!(((intOfV (cellAt yr48 0)) == (intOfV (cellAt yr50 0))) && (((intOfV (cellAt yr48 1)) == (intOfV (cellAt yr50 1))) && true)))
 (asr (decide ((0 : Int) ≤ i7))
 (asr (decide (i7 < ((n5 : Nat) : Int)))
 (asr (decide ((List.length l0) = n6))
 (asr (decide ((n4 + (i7.toNat)) < (List.length l0)))
 (lt (List.getD l0 (n4 + (i7.toNat)) .nils) (fun yr53 =>
 (asr (conf (.agg [.i .i64, .i .i64]) yr53)
 (asr (decide ((0 : Int) ≤ i3))
 (asr (decide (i3 < ((n1 : Nat) : Int)))
 (asr (decide ((List.length l0) = n2))
 (asr (decide ((0 + (i3.toNat)) < (List.length l0)))
 (lt (List.getD l0 (0 + (i3.toNat)) .nils) (fun yr54 =>
 (asr (conf (.agg [.i .i64, .i .i64]) yr54)
 (lt (IntKind.i64.wrap (i3 + (1 : Int))) (fun yi55 =>
 (yj43 (List.set l0 (0 + (i3.toNat)) (.agg [(.int .i64 (intOfV (cellAt yr53 0))), (.int .i64 (intOfV (cellAt yr53 1)))])) yi55)))))))))))))))))
 (yj43 l0 i3)))))))))))))))))))
 (fun yl41 yi42 => (lt (IntKind.i64.wrap (i7 + (1 : Int))) (fun yi44 =>
 (L_audit_pointsOf_2_0 a0 x36914300_0 n36914300 yl41 n1 n2 yi42 n4 n5 n6 yi44)))))
 (x36914300_0 l0 n1 n2 i3 n4 n5 n6 i7 false))
def L_audit_pointsOf_1_0 (a0 : T_audit_whole) (x36914301_0 : List PV → Nat → Nat → Int → Bool → Prop) (x36914301_1 : List PV → Nat → Nat → Prop) : Nat → List PV → Nat → Nat → Int → Prop
 | 0, _, _, _, _ => False
 | n36914301 + 1, l0, n1, n2, i3 =>
 (cbr (decide (i3 < ((n1 : Nat) : Int)))
 (asr (decide ((0 : Int) ≤ i3))
 (asr (decide (i3 < ((n1 : Nat) : Int)))
 (asr (decide ((List.length l0) = n2))
 (asr (decide ((0 + (i3.toNat)) < (List.length l0)))
 (lt (List.getD l0 (0 + (i3.toNat)) .nils) (fun yr79 =>
 (asr (conf (.agg [.i .i64, .i .i64]) yr79)
 (lt (IntKind.i64.wrap (i3 - (1 : Int))) (fun yi80 =>
 (asr (decide ((0 : Int) ≤ yi80))
 (asr (decide (yi80 < ((n1 : Nat) : Int)))
 (asr (decide ((List.length l0) = n2))
 (asr (decide ((0 + (yi80.toNat)) < (List.length l0)))
 (lt (List.getD l0 (0 + (yi80.toNat)) .nils) (fun yr81 =>
 (asr (conf (.agg [.i .i64, .i .i64]) yr81)
 (cbr (((intOfV (cellAt yr79 0)) == (intOfV (cellAt yr81 0))) && (((intOfV (cellAt yr79 1)) == (intOfV (cellAt yr81 1))) && true))
 (asr (decide ((0 : Int) ≤ i3))
 (asr (decide (i3 ≤ ((n1 : Nat) : Int)))
 (asr ((decide (((n1 : Nat) : Int) ≤ ((n1 : Nat) : Int))) || (decide (((n1 : Nat) : Int) ≤ ((n1 : Nat) : Int))))
 (∃ n36914300 : Nat, L_audit_pointsOf_2_0 a0
 (fun yl91 yn92 yn93 yi94 _ _ _ _ _ => (jn (fun (yj101 : List PV → Prop) =>
 (asr (decide ((0 : Int) ≤ yi94))
 (asr (decide (yi94 ≤ ((yn92 : Nat) : Int)))
 (asr ((decide (((yn92 : Nat) : Int) ≤ ((yn92 : Nat) : Int))) || (decide (((yn92 : Nat) : Int) ≤ ((yn92 : Nat) : Int))))
 (cbr (decide (((((yn92 : Nat) : Int) - yi94).toNat) = 0))
 (yj101 yl91)
 (asr (decide ((List.length yl91) = yn93))
 (asr (decide (((0 + (yi94.toNat)) + ((((yn92 : Nat) : Int) - yi94).toNat)) ≤ yn93))
 (yj101 ((List.take (0 + (yi94.toNat)) yl91) ++ ((List.replicate ((((yn92 : Nat) : Int) - yi94).toNat) ((.agg [(.int .i64 (0)), (.int .i64 (0))]) : PV)) ++ (List.drop ((0 + (yi94.toNat)) + ((((yn92 : Nat) : Int) - yi94).toNat)) yl91)))))))))))
 (fun yl100 => (asr (decide ((0 : Int) ≤ yi94))
 (asr ((decide (yi94 ≤ ((yn92 : Nat) : Int))) || (decide (yi94 ≤ ((yn92 : Nat) : Int))))
 (x36914301_1 yl100 ((yi94 - (0 : Int)).toNat) yn93))))))
 n36914300 l0 n1 n2 i3 (0 + (i3.toNat)) ((((n1 : Nat) : Int) - i3).toNat) n2 (1 : Int)))))
 (lt (IntKind.i64.wrap (i3 + (1 : Int))) (fun yi102 =>
 (L_audit_pointsOf_1_0 a0 x36914301_0 x36914301_1 n36914301 l0 n1 n2 yi102))))))))))))))))))))
 (x36914301_0 l0 n1 n2 i3 false))
def wv_audit_pointsOf (a0 : T_audit_whole) (p0 : Int) (p1 : List PV) (K : List PV → Prop) : Prop :=
 (a0 (0 : Int) (fun yi4 yi5 => 
 (a0 p0 (fun yi6 yi7 => 
 (asr (decide (2 = List.length ([(.agg [(.int .i64 yi4), (.int .i64 yi5)]), (.agg [(.int .i64 yi6), (.int .i64 yi7)])] : List PV)) && decide (2 = List.length ([(.agg [(.int .i64 yi4), (.int .i64 yi5)]), (.agg [(.int .i64 yi6), (.int .i64 yi7)])] : List PV)))
 (∃ n86101800 : Nat, L_audit_pointsOf_0_0 a0
 (fun yl18 _ _ _ _ => (asr (Srt.cond srt_audit_order.s yl18 0 (List.length yl18) (List.length yl18) 2 false)
 (jn (fun (yj167 : List PV → Nat → Nat → Prop) =>
 (cbr (decide ((((List.length yl18) : Nat) : Int) < (2 : Int)))
 (yj167 (List.take 0 yl18 ++ (Srt.sorted srt_audit_order.s srt_audit_order.srt (List.take (List.length yl18) (List.drop 0 yl18)) ++ List.drop (0 + (List.length yl18)) yl18)) (List.length yl18) (List.length yl18))
 (∃ n36914301 : Nat, L_audit_pointsOf_1_0 a0
 (fun yl176 yn177 yn178 _ _ => (yj167 yl176 yn177 yn178))
 (fun yl181 yn182 yn183 => (yj167 yl181 yn182 yn183))
 n36914301 (List.take 0 yl18 ++ (Srt.sorted srt_audit_order.s srt_audit_order.srt (List.take (List.length yl18) (List.drop 0 yl18)) ++ List.drop (0 + (List.length yl18)) yl18)) (List.length yl18) (List.length yl18) (1 : Int))))
 (fun yl164 yn165 yn166 => (asr (decide ((List.length yl164) = yn166))
 (asr (decide ((0 + yn165) ≤ yn166))
 (K (List.take yn165 yl164))))))))
 n86101800 ([(.agg [(.int .i64 yi4), (.int .i64 yi5)]), (.agg [(.int .i64 yi6), (.int .i64 yi7)])] : List PV) p1 (((List.length p1) : Nat) : Int) (0 : Int)))))))
def w_audit_pointsOf (p0 : Int) (p1 : List PV) (K : List PV → Prop) : Prop := wv_audit_pointsOf w_audit_whole p0 p1 K
def pw_audit_pointsOf (w : T_audit_pointsOf) (as : List PV) (K : PV → Prop) : Prop :=
 match as with
 | [(.int .i64 p0), (.data p1)] => w p0 p1 (fun r0 => K (.data r0))
 | _ => False
def wp_audit_pointsOf (as : List PV) (K : PV → Prop) : Prop := pw_audit_pointsOf w_audit_pointsOf as K
def D_audit_pointsOf_0 (F : Frm) (H : Hp) (A0 : List PV → List PV → Int → Int → Prop) : Prop :=
 match F, H with
 | [(5, .v (.own 0 0 t1 t2 none)), (12, .v (.data l3)), (13, .v (.int .i64 i4)), (14, .v (.int .i64 i5))], [⟨false, true, 2, l0⟩] => asr (decide (t1 = List.length l0) && decide (t2 = List.length l0)) (A0 l0 l3 i4 i5)
 | _, _ => False
def D_audit_pointsOf_2 (F : Frm) (H : Hp) (A0 : List PV → Nat → Nat → Int → Nat → Nat → Nat → Int → Prop) : Prop :=
 match F, H with
 | [(0, .v (.own 0 0 n1 n2 none)), (3, .v (.int .i64 i3)), (4, .v (.own 0 n4 n5 n6 none)), (5, .v (.int .i64 i7))], [⟨false, true, 2, l0⟩] => (A0 l0 n1 n2 i3 n4 n5 n6 i7)
 | _, _ => False
def D_audit_pointsOf_1 (F : Frm) (H : Hp) (A0 : List PV → Nat → Nat → Int → Prop) : Prop :=
 match F, H with
 | [(0, .v (.own 0 0 n1 n2 none)), (3, .v (.int .i64 i3))], [⟨false, true, 2, l0⟩] => (A0 l0 n1 n2 i3)
 | _, _ => False
def X_audit_pointsOf_0_0 (Q : Ex → Frm → Hp → Prop) : List PV → List PV → Int → Int → Bool → Prop := (fun l0 l3 i4 i5 b6 => Q (.exit 0) [(5, .v (.own 0 0 (List.length l0) (List.length l0) none)), (12, .v (.data l3)), (13, .v (.int .i64 i4)), (14, .v (.int .i64 i5)), (15, .v (.bool b6))] [⟨false, true, 2, l0⟩])
def X_audit_pointsOf_2_0 (Q : Ex → Frm → Hp → Prop) : List PV → Nat → Nat → Int → Nat → Nat → Nat → Int → Bool → Prop := (fun l0 n1 n2 i3 n4 n5 n6 i7 b8 => Q (.exit 2) [(0, .v (.own 0 0 n1 n2 none)), (3, .v (.int .i64 i3)), (4, .v (.own 0 n4 n5 n6 none)), (5, .v (.int .i64 i7)), (32, .v (.bool b8))] [⟨false, true, 2, l0⟩])
def X_audit_pointsOf_1_0 (Q : Ex → Frm → Hp → Prop) : List PV → Nat → Nat → Int → Bool → Prop := (fun l0 n1 n2 i3 b4 => Q (.exit 0) [(0, .v (.own 0 0 n1 n2 none)), (3, .v (.int .i64 i3)), (13, .v (.bool b4))] [⟨false, true, 2, l0⟩])
def X_audit_pointsOf_1_1 (Q : Ex → Frm → Hp → Prop) : List PV → Nat → Nat → Prop := (fun l0 n1 n2 => Q .ret [(2, .v (.own 0 0 n1 n2 none))] [⟨false, true, 2, l0⟩])
def R_audit_pointsOf_0 (a0 : T_audit_whole) (Q : Ex → Frm → Hp → Prop) (n : Nat) (F : Frm) (H : Hp) : Prop := D_audit_pointsOf_0 F H (fun l0 l3 i4 i5 => L_audit_pointsOf_0_0 a0 (X_audit_pointsOf_0_0 Q) n l0 l3 i4 i5)
def R_audit_pointsOf_2 (a0 : T_audit_whole) (Q : Ex → Frm → Hp → Prop) (n : Nat) (F : Frm) (H : Hp) : Prop := D_audit_pointsOf_2 F H (fun l0 n1 n2 i3 n4 n5 n6 i7 => L_audit_pointsOf_2_0 a0 (X_audit_pointsOf_2_0 Q) n l0 n1 n2 i3 n4 n5 n6 i7)
def R_audit_pointsOf_1 (a0 : T_audit_whole) (Q : Ex → Frm → Hp → Prop) (n : Nat) (F : Frm) (H : Hp) : Prop := D_audit_pointsOf_1 F H (fun l0 n1 n2 i3 => L_audit_pointsOf_1_0 a0 (X_audit_pointsOf_1_0 Q) (X_audit_pointsOf_1_1 Q) n l0 n1 n2 i3)
def lp_audit_pointsOf (a0 : T_audit_whole) : LP := fun id F H Q =>
 bif Nat.beq id 86101800 then D_audit_pointsOf_0 F H (fun l0 l3 i4 i5 => ∃ n : Nat, L_audit_pointsOf_0_0 a0 (X_audit_pointsOf_0_0 Q) n l0 l3 i4 i5) else
 bif Nat.beq id 36914300 then D_audit_pointsOf_2 F H (fun l0 n1 n2 i3 n4 n5 n6 i7 => ∃ n : Nat, L_audit_pointsOf_2_0 a0 (X_audit_pointsOf_2_0 Q) n l0 n1 n2 i3 n4 n5 n6 i7) else
 bif Nat.beq id 36914301 then D_audit_pointsOf_1 F H (fun l0 n1 n2 i3 => ∃ n : Nat, L_audit_pointsOf_1_0 a0 (X_audit_pointsOf_1_0 Q) (X_audit_pointsOf_1_1 Q) n l0 n1 n2 i3) else
 False
def S0_audit_pointsOf (a0 : T_audit_whole) : SE := ⟨(E ef0), lookS [(n_audit_whole, pw_audit_whole a0)], lookI [], lp_audit_pointsOf a0⟩
def S1_audit_pointsOf (a0 : T_audit_whole) : SE := ⟨(E ef0), lookS [(n_audit_whole, pw_audit_whole a0)], lookI [(n_s_Compact_api_Ratio_api_Ratio, t_s_Compact_api_Ratio_api_Ratio)], lp_audit_pointsOf a0⟩
theorem se0_audit_pointsOf : SEOk (S0_audit_pointsOf w_audit_whole) := seOk_of ⟨(ok_audit_whole ef0 effG0), trivial⟩ trivial effG0.ok
theorem body_audit_pointsOf_0_0 (a0 Q n l0 l3 i4 i5) : WC (E ef0) (callW (S0_audit_pointsOf a0) 5) (lp_audit_pointsOf a0) b_86101800 [(5, .v (.own 0 0 (List.length l0) (List.length l0) none)), (12, .v (.data l3)), (13, .v (.int .i64 i4)), (14, .v (.int .i64 i5))] [⟨false, true, 2, l0⟩] (fun x F' H' => match x with | .norm => R_audit_pointsOf_0 a0 Q n F' H' | .exit i => Q (.exit i) F' H' | .ret => Q .ret F' H') = L_audit_pointsOf_0_0 a0 (X_audit_pointsOf_0_0 Q) (n + 1) l0 l3 i4 i5 := by kernel_rfl
theorem lpb_audit_pointsOf_0 : LpOk (E ef0) (lp_audit_pointsOf w_audit_whole) b_86101800 := (LpOk_no (by kernel_rfl))
theorem loop_audit_pointsOf_0 : ∀ F H Q, lp_audit_pointsOf w_audit_whole 86101800 F H Q → LoopT (E ef0) b_86101800 F H Q := by
 intro F H Q h
 have go := LoopT.intro (callW_ok (se0_audit_pointsOf) 5) (lpb_audit_pointsOf_0) (R_audit_pointsOf_0 w_audit_whole Q) (by
   intro F H h
   unfold R_audit_pointsOf_0 D_audit_pointsOf_0 at h
   split at h
   · obtain ⟨hg, k⟩ := asr_iff.1 h
     clear h
     have h := k
     clear k
     try simp only [Bool.and_eq_true, decide_eq_true_eq] at hg
     obtain ⟨g0, g1⟩ := hg; subst g0; subst g1; exact h
   · exact h) (by
   intro n F H h
   unfold R_audit_pointsOf_0 D_audit_pointsOf_0 at h
   split at h
   · obtain ⟨hg, k⟩ := asr_iff.1 h
     clear h
     have h := k
     clear k
     try simp only [Bool.and_eq_true, decide_eq_true_eq] at hg
     obtain ⟨g0, g1⟩ := hg; subst g0; subst g1; exact (body_audit_pointsOf_0_0 ..).mpr h
   · exact h.elim)
 have h : D_audit_pointsOf_0 F H _ := h
 unfold D_audit_pointsOf_0 at h
 split at h
 · obtain ⟨hg, n, h⟩ := asr_iff.1 h; exact go n _ _ (asr_iff.2 ⟨hg, h⟩)
 · exact h.elim
theorem body_audit_pointsOf_2_0 (a0 Q n l0 n1 n2 i3 n4 n5 n6 i7) : WC (E ef0) (callW (S0_audit_pointsOf a0) 5) (lp_audit_pointsOf a0) b_36914300 [(0, .v (.own 0 0 n1 n2 none)), (3, .v (.int .i64 i3)), (4, .v (.own 0 n4 n5 n6 none)), (5, .v (.int .i64 i7))] [⟨false, true, 2, l0⟩] (fun x F' H' => match x with | .norm => R_audit_pointsOf_2 a0 Q n F' H' | .exit i => Q (.exit i) F' H' | .ret => Q .ret F' H') = L_audit_pointsOf_2_0 a0 (X_audit_pointsOf_2_0 Q) (n + 1) l0 n1 n2 i3 n4 n5 n6 i7 := by kernel_rfl
theorem lpb_audit_pointsOf_2 : LpOk (E ef0) (lp_audit_pointsOf w_audit_whole) b_36914300 := (LpOk_no (by kernel_rfl))
theorem loop_audit_pointsOf_2 : ∀ F H Q, lp_audit_pointsOf w_audit_whole 36914300 F H Q → LoopT (E ef0) b_36914300 F H Q := by
 intro F H Q h
 have go := LoopT.intro (callW_ok (se0_audit_pointsOf) 5) (lpb_audit_pointsOf_2) (R_audit_pointsOf_2 w_audit_whole Q) (by
   intro F H h
   unfold R_audit_pointsOf_2 D_audit_pointsOf_2 at h
   split at h
   · exact h
   · exact h) (by
   intro n F H h
   unfold R_audit_pointsOf_2 D_audit_pointsOf_2 at h
   split at h
   · exact (body_audit_pointsOf_2_0 ..).mpr h
   · exact h.elim)
 have h : D_audit_pointsOf_2 F H _ := h
 unfold D_audit_pointsOf_2 at h
 split at h
 · obtain ⟨n, h⟩ := h; exact go n _ _ h
 · exact h.elim
theorem body_audit_pointsOf_1_0 (a0 Q n l0 n1 n2 i3) : WC (E ef0) (callW (S0_audit_pointsOf a0) 5) (lp_audit_pointsOf a0) b_36914301 [(0, .v (.own 0 0 n1 n2 none)), (3, .v (.int .i64 i3))] [⟨false, true, 2, l0⟩] (fun x F' H' => match x with | .norm => R_audit_pointsOf_1 a0 Q n F' H' | .exit i => Q (.exit i) F' H' | .ret => Q .ret F' H') = L_audit_pointsOf_1_0 a0 (X_audit_pointsOf_1_0 Q) (X_audit_pointsOf_1_1 Q) (n + 1) l0 n1 n2 i3 := by kernel_rfl
theorem lpb_audit_pointsOf_1 : LpOk (E ef0) (lp_audit_pointsOf w_audit_whole) b_36914301 := (LpOk_by (l := [(36914300, b_36914300)]) ⟨loop_audit_pointsOf_2, trivial⟩ (by kernel_rfl))
theorem loop_audit_pointsOf_1 : ∀ F H Q, lp_audit_pointsOf w_audit_whole 36914301 F H Q → LoopT (E ef0) b_36914301 F H Q := by
 intro F H Q h
 have go := LoopT.intro (callW_ok (se0_audit_pointsOf) 5) (lpb_audit_pointsOf_1) (R_audit_pointsOf_1 w_audit_whole Q) (by
   intro F H h
   unfold R_audit_pointsOf_1 D_audit_pointsOf_1 at h
   split at h
   · exact h
   · exact h) (by
   intro n F H h
   unfold R_audit_pointsOf_1 D_audit_pointsOf_1 at h
   split at h
   · exact (body_audit_pointsOf_1_0 ..).mpr h
   · exact h.elim)
 have h : D_audit_pointsOf_1 F H _ := h
 unfold D_audit_pointsOf_1 at h
 split at h
 · obtain ⟨n, h⟩ := h; exact go n _ _ h
 · exact h.elim
theorem se1_audit_pointsOf : SEOk (S1_audit_pointsOf w_audit_whole) := seOk_of ⟨(ok_audit_whole ef0 effG0), trivial⟩ ⟨⟨by kernel_rfl, by kernel_rfl, rfl, fun as => baseS_none (by kernel_rfl) as, effG0.num _ (by kernel_rfl), (LpOk_by (l := [(36914300, b_36914300), (36914301, b_36914301)]) ⟨loop_audit_pointsOf_2, loop_audit_pointsOf_1, trivial⟩ (by kernel_rfl))⟩, trivial⟩ effG0.ok
theorem eq_audit_pointsOf (a0 p0 p1 K) : WP (S1_audit_pointsOf a0) 6 t_audit_pointsOf [(.int .i64 p0), (.data p1)] K = wv_audit_pointsOf a0 p0 p1 (fun r0 => K (.data r0)) := by kernel_rfl
theorem ok_audit_pointsOf : OkF (E ef0) wp_audit_pointsOf n_audit_pointsOf := by
 intro as K h
 unfold wp_audit_pointsOf pw_audit_pointsOf at h
 split at h
 · exact WP_ok (se1_audit_pointsOf) (LpOk_by (l := [(86101800, b_86101800)]) ⟨loop_audit_pointsOf_0, trivial⟩ (by kernel_rfl)) (by kernel_rfl) (by kernel_rfl) (fun _ => baseS_none (by kernel_rfl) _) (effG0.num _ (by kernel_rfl)) ((eq_audit_pointsOf ..).mpr h)
 · exact h.elim
abbrev T_audit_heights : Type := List PV → List PV → Int → Prop → (List PV → Prop) → Prop
def L_audit_heights_1_0 (a0 : T_audit_order) (a1 : T_s_Equal_int64_int64) (x10433800_0 : List PV → List PV → List PV → Int → Int → Int → Int → Int → Bool → Prop) : Nat → List PV → List PV → List PV → Int → Int → Int → Int → Int → Prop
 | 0, _, _, _, _, _, _, _, _ => False
 | n10433800 + 1, l0, l1, l2, i3, i4, i5, i6, i7 =>
 (cbr (decide (i6 < i7))
 (lt (IntKind.i64.wrap (i6 + i7)) (fun yi7 =>
 (lt (Int.fdiv (IntKind.u64.wrap yi7) 2) (fun yi8 =>
 (asr (decide ((0 : Int) ≤ (IntKind.i64.wrap yi8)))
 (asr (decide ((IntKind.i64.wrap yi8) < (((List.length l2) : Nat) : Int)))
 (lt (List.getD l2 ((IntKind.i64.wrap yi8).toNat) .nils) (fun yr11 =>
 (asr (conf (.agg [.i .i64, .i .i64]) yr11)
 (a0 (intOfV (cellAt yr11 0)) (intOfV (cellAt yr11 1)) i3 i4 (fun yi12 => 
 (cbr (decide (yi12 < (0 : Int)))
 (lt (IntKind.i64.wrap ((IntKind.i64.wrap yi8) + (1 : Int))) (fun yi13 =>
 (L_audit_heights_1_0 a0 a1 x10433800_0 n10433800 l0 l1 l2 i3 i4 i5 yi13 i7)))
 (L_audit_heights_1_0 a0 a1 x10433800_0 n10433800 l0 l1 l2 i3 i4 i5 i6 (IntKind.i64.wrap yi8))))))))))))))
 (x10433800_0 l0 l1 l2 i3 i4 i5 i6 i7 false))
def L_audit_heights_1_1 (a0 : T_audit_order) (a1 : T_s_Equal_int64_int64) (x10433800_1 : List PV → List PV → List PV → List PV → Int → Int → Int → Int → Int → Bool → Prop) : Nat → List PV → List PV → List PV → List PV → Int → Int → Int → Int → Int → Prop
 | 0, _, _, _, _, _, _, _, _, _ => False
 | n10433800 + 1, l0, l1, l2, l3, i4, i5, i6, i7, i8 =>
 (cbr (decide (i7 < i8))
 (lt (IntKind.i64.wrap (i7 + i8)) (fun yi485 =>
 (lt (Int.fdiv (IntKind.u64.wrap yi485) 2) (fun yi486 =>
 (asr (decide ((0 : Int) ≤ (IntKind.i64.wrap yi486)))
 (asr (decide ((IntKind.i64.wrap yi486) < (((List.length l3) : Nat) : Int)))
 (lt (List.getD l3 ((IntKind.i64.wrap yi486).toNat) .nils) (fun yr489 =>
 (asr (conf (.agg [.i .i64, .i .i64]) yr489)
 (a0 (intOfV (cellAt yr489 0)) (intOfV (cellAt yr489 1)) i4 i5 (fun yi490 => 
 (cbr (decide (yi490 < (0 : Int)))
 (lt (IntKind.i64.wrap ((IntKind.i64.wrap yi486) + (1 : Int))) (fun yi491 =>
 (L_audit_heights_1_1 a0 a1 x10433800_1 n10433800 l0 l1 l2 l3 i4 i5 i6 yi491 i8)))
 (L_audit_heights_1_1 a0 a1 x10433800_1 n10433800 l0 l1 l2 l3 i4 i5 i6 i7 (IntKind.i64.wrap yi486))))))))))))))
 (x10433800_1 l0 l1 l2 l3 i4 i5 i6 i7 i8 false))
def L_audit_heights_3_0 (a0 : T_audit_order) (a1 : T_s_Equal_int64_int64) (x17934301_0 : List PV → List PV → List PV → List PV → Int → Int → Nat → Nat → Nat → Nat → Nat → Nat → List PV → Int → Int → Int → Bool → Prop) : Nat → List PV → List PV → List PV → List PV → Int → Int → Nat → Nat → Nat → Nat → Nat → Nat → List PV → Int → Int → Int → Prop
 | 0, _, _, _, _, _, _, _, _, _, _, _, _, _, _, _, _ => False
 | n17934301 + 1, l0, l1, l2, l3, i4, i5, n6, n7, n8, n9, n10, n11, l12, i13, i14, i15 =>
 (cbr (decide (i13 < ((n9 : Nat) : Int)))
 (asr (decide ((0 : Int) ≤ i13))
 (asr (decide (i13 < ((n9 : Nat) : Int)))
 (asr (decide ((List.length l1) = n10))
 (asr (decide ((0 + (i13.toNat)) < (List.length l1)))
 (lt (List.getD l1 (0 + (i13.toNat)) .nils) (fun yr440 =>
 (asr (conf (.one (.i .i64)) yr440)
 (lt (IntKind.i64.wrap (i13 - (1 : Int))) (fun yi441 =>
 (asr (decide ((0 : Int) ≤ yi441))
 (asr (decide (yi441 < ((n9 : Nat) : Int)))
 (asr (decide ((List.length l1) = n10))
 (asr (decide ((0 + (yi441.toNat)) < (List.length l1)))
 (lt (List.getD l1 (0 + (yi441.toNat)) .nils) (fun yr442 =>
 (asr (conf (.one (.i .i64)) yr442)
 (asr (decide ((0 : Int) ≤ i13))
 (asr (decide (i13 < ((n6 : Nat) : Int)))
 (asr (decide ((List.length l0) = n7))
 (asr (decide ((0 + (i13.toNat)) < (List.length l0)))
 (lt (List.getD l0 (0 + (i13.toNat)) .nils) (fun yr443 =>
 (asr (conf (.one (.i .i64)) yr443)
 (lt (IntKind.i64.wrap ((intOfV yr442) + (intOfV yr443))) (fun yi444 =>
 (asr (decide ((0 : Int) ≤ i13))
 (asr (decide (i13 < ((n9 : Nat) : Int)))
 (asr (decide ((List.length l1) = n10))
 (asr (decide ((0 + (i13.toNat)) < (List.length l1)))
 (lt (List.getD l1 (0 + (i13.toNat)) .nils) (fun yr445 =>
 (asr (conf (.one (.i .i64)) yr445)
 (lt (IntKind.i64.wrap (i13 + (1 : Int))) (fun yi446 =>
 (L_audit_heights_3_0 a0 a1 x17934301_0 n17934301 l0 (List.set l1 (0 + (i13.toNat)) (.int .i64 (if yi444 > (intOfV yr440) then yi444 else (intOfV yr440)))) l2 l3 i4 i5 n6 n7 n8 n9 n10 n11 l12 yi446 i14 i15)))))))))))))))))))))))))))))))))))
 (x17934301_0 l0 l1 l2 l3 i4 i5 n6 n7 n8 n9 n10 n11 l12 i13 i14 i15 false))
def L_audit_heights_4_0 (a0 : T_audit_order) (a1 : T_s_Equal_int64_int64) (x17934302_0 : List PV → List PV → List PV → List PV → Int → Int → Nat → Nat → Nat → Nat → Nat → Nat → List PV → Int → Int → List PV → Int → Int → Bool → Prop) : Nat → List PV → List PV → List PV → List PV → Int → Int → Nat → Nat → Nat → Nat → Nat → Nat → List PV → Int → Int → List PV → Int → Int → Prop
 | 0, _, _, _, _, _, _, _, _, _, _, _, _, _, _, _, _, _, _ => False
 | n17934302 + 1, l0, l1, l2, l3, i4, i5, n6, n7, n8, n9, n10, n11, l12, i13, i14, l15, i16, i17 =>
 (cbr (decide (i17 < i16))
 (asr (decide ((0 : Int) ≤ i17))
 (asr (decide (i17 < (((List.length l15) : Nat) : Int)))
 (lt (List.getD l15 (i17.toNat) .nils) (fun yr1343 =>
 (asr (conf (.agg [.i .i64, .i .i64, .i .i64, .i .i64, .i .i64, .i .i64, .b]) yr1343)
 (∃ n10433800 : Nat, L_audit_heights_1_1 a0 a1
 (fun yl1952 yl1953 yl1954 yl1955 yi1956 yi1957 yi1958 yi1959 _ _ => (jn (fun (yj1965 : Bool → Prop) =>
 (cbr (decide (yi1959 < yi1958))
 (asr (decide ((0 : Int) ≤ yi1959))
 (asr (decide (yi1959 < (((List.length yl1955) : Nat) : Int)))
 (lt (List.getD yl1955 (yi1959.toNat) .nils) (fun yr2193 =>
 (asr (conf (.agg [.i .i64, .i .i64]) yr2193)
 (a0 (intOfV (cellAt yr2193 0)) (intOfV (cellAt yr2193 1)) yi1956 yi1957 (fun yi2194 => 
 (yj1965 (yi2194 == (0 : Int))))))))))
 (yj1965 false)))
 (fun _ => (∃ n10433800 : Nat, L_audit_heights_1_1 a0 a1
 (fun yl2158 yl2159 yl2160 yl2161 yi2162 yi2163 yi2164 yi2165 _ _ => (jn (fun (yj2171 : Bool → Prop) =>
 (cbr (decide (yi2165 < yi2164))
 (asr (decide ((0 : Int) ≤ yi2165))
 (asr (decide (yi2165 < (((List.length yl2161) : Nat) : Int)))
 (lt (List.getD yl2161 (yi2165.toNat) .nils) (fun yr2191 =>
 (asr (conf (.agg [.i .i64, .i .i64]) yr2191)
 (a0 (intOfV (cellAt yr2191 0)) (intOfV (cellAt yr2191 1)) yi2162 yi2163 (fun yi2192 => 
 (yj2171 (yi2192 == (0 : Int))))))))))
 (yj2171 false)))
 (fun _ => (asr (!(decide ((intOfV (cellAt yr1343 5)) = (0 : Int))))
 (lt (IntKind.i64.wrap (Int.tdiv i4 (intOfV (cellAt yr1343 5)))) (fun yi2175 =>
 (lt (IntKind.i64.wrap ((intOfV (cellAt yr1343 4)) * yi2175)) (fun yi2176 =>
 (lt (IntKind.i64.wrap (yi2176 * i5)) (fun yi2177 =>
 (asr (decide ((0 : Int) ≤ yi2165))
 (asr (decide (yi2165 < ((n9 : Nat) : Int)))
 (asr (decide ((List.length yl2159) = n10))
 (asr (decide ((0 + (yi2165.toNat)) < (List.length yl2159)))
 (lt (List.getD yl2159 (0 + (yi2165.toNat)) .nils) (fun yr2182 =>
 (asr (conf (.one (.i .i64)) yr2182)
 (asr (decide ((0 : Int) ≤ yi1959))
 (asr (decide (yi1959 < ((n9 : Nat) : Int)))
 (asr (decide ((List.length yl2159) = n10))
 (asr (decide ((0 + (yi1959.toNat)) < (List.length yl2159)))
 (lt (List.getD yl2159 (0 + (yi1959.toNat)) .nils) (fun yr2183 =>
 (asr (conf (.one (.i .i64)) yr2183)
 (lt (IntKind.i64.wrap ((intOfV yr2183) + yi2177)) (fun yi2184 =>
 (asr (decide ((0 : Int) ≤ yi2165))
 (asr (decide (yi2165 < ((n9 : Nat) : Int)))
 (asr (decide ((List.length yl2159) = n10))
 (asr (decide ((0 + (yi2165.toNat)) < (List.length yl2159)))
 (lt (List.getD yl2159 (0 + (yi2165.toNat)) .nils) (fun yr2185 =>
 (asr (conf (.one (.i .i64)) yr2185)
 (asr (decide ((0 : Int) ≤ yi1959))
 (asr (decide (yi1959 < ((n9 : Nat) : Int)))
 (asr (decide ((List.length (List.set yl2159 (0 + (yi2165.toNat)) (.int .i64 (if yi2184 > (intOfV yr2182) then yi2184 else (intOfV yr2182))))) = n10))
 (asr (decide ((0 + (yi1959.toNat)) < (List.length (List.set yl2159 (0 + (yi2165.toNat)) (.int .i64 (if yi2184 > (intOfV yr2182) then yi2184 else (intOfV yr2182)))))))
 (lt (List.getD (List.set yl2159 (0 + (yi2165.toNat)) (.int .i64 (if yi2184 > (intOfV yr2182) then yi2184 else (intOfV yr2182)))) (0 + (yi1959.toNat)) .nils) (fun yr2186 =>
 (asr (conf (.one (.i .i64)) yr2186)
 (asr (decide ((0 : Int) ≤ yi2165))
 (asr (decide (yi2165 < ((n9 : Nat) : Int)))
 (asr (decide ((List.length (List.set yl2159 (0 + (yi2165.toNat)) (.int .i64 (if yi2184 > (intOfV yr2182) then yi2184 else (intOfV yr2182))))) = n10))
 (asr (decide ((0 + (yi2165.toNat)) < (List.length (List.set yl2159 (0 + (yi2165.toNat)) (.int .i64 (if yi2184 > (intOfV yr2182) then yi2184 else (intOfV yr2182)))))))
 (lt (List.getD (List.set yl2159 (0 + (yi2165.toNat)) (.int .i64 (if yi2184 > (intOfV yr2182) then yi2184 else (intOfV yr2182)))) (0 + (yi2165.toNat)) .nils) (fun yr2187 =>
 (asr (conf (.one (.i .i64)) yr2187)
 (lt (IntKind.i64.wrap ((intOfV yr2187) - yi2177)) (fun yi2188 =>
 (asr (decide ((0 : Int) ≤ yi1959))
 (asr (decide (yi1959 < ((n9 : Nat) : Int)))
 (asr (decide ((List.length (List.set yl2159 (0 + (yi2165.toNat)) (.int .i64 (if yi2184 > (intOfV yr2182) then yi2184 else (intOfV yr2182))))) = n10))
 (asr (decide ((0 + (yi1959.toNat)) < (List.length (List.set yl2159 (0 + (yi2165.toNat)) (.int .i64 (if yi2184 > (intOfV yr2182) then yi2184 else (intOfV yr2182)))))))
 (lt (List.getD (List.set yl2159 (0 + (yi2165.toNat)) (.int .i64 (if yi2184 > (intOfV yr2182) then yi2184 else (intOfV yr2182)))) (0 + (yi1959.toNat)) .nils) (fun yr2189 =>
 (asr (conf (.one (.i .i64)) yr2189)
 (lt (IntKind.i64.wrap (i17 + (1 : Int))) (fun yi2190 =>
 (L_audit_heights_4_0 a0 a1 x17934302_0 n17934302 yl2158 (List.set (List.set yl2159 (0 + (yi2165.toNat)) (.int .i64 (if yi2184 > (intOfV yr2182) then yi2184 else (intOfV yr2182)))) (0 + (yi1959.toNat)) (.int .i64 (if yi2188 > (intOfV yr2186) then yi2188 else (intOfV yr2186)))) yl2160 l3 i4 i5 n6 n7 n8 n9 n10 n11 l12 i13 i14 l15 i16 yi2190)))))))))))))))))))))))))))))))))))))))))))))))))))))))))))
 n10433800 yl1952 yl1953 yl1954 yl1954 (intOfV (cellAt yr1343 2)) (intOfV (cellAt yr1343 3)) (((List.length yl1954) : Nat) : Int) (0 : Int) (((List.length yl1954) : Nat) : Int)))))
 n10433800 l0 l1 l2 l2 (intOfV (cellAt yr1343 0)) (intOfV (cellAt yr1343 1)) (((List.length l2) : Nat) : Int) (0 : Int) (((List.length l2) : Nat) : Int)))))))
 (x17934302_0 l0 l1 l2 l3 i4 i5 n6 n7 n8 n9 n10 n11 l12 i13 i14 l15 i16 i17 false))
def L_audit_heights_0_0 (a0 : T_audit_order) (a1 : T_s_Equal_int64_int64) (x17934300_0 : List PV → List PV → List PV → Int → Int → Nat → Nat → Nat → List PV → Int → Int → Bool → Prop) (x17934300_1 : List PV → List PV → Prop) : Nat → List PV → List PV → List PV → Int → Int → Nat → Nat → Nat → List PV → Int → Int → Prop
 | 0, _, _, _, _, _, _, _, _, _, _, _ => False
 | n17934300 + 1, l0, l1, l2, i3, i4, n5, n6, n7, l8, i9, i10 =>
 (cbr (decide (i10 < i9))
 (jn (fun (yj209 : List PV → List PV → Prop) =>
 (asr (decide ((0 : Int) ≤ i10))
 (asr (decide (i10 < (((List.length l8) : Nat) : Int)))
 (lt (List.getD l8 (i10.toNat) .nils) (fun yr212 =>
 (asr (conf (.agg [.i .i64, .i .i64, .i .i64, .i .i64, .i .i64, .i .i64, .b]) yr212)
 (cbr (!(boolOfV (cellAt yr212 6)))
 (yj209 l0 l1)
 (cbr (decide ((intOfV (cellAt yr212 4)) > (0 : Int)))
 (∃ n10433800 : Nat, L_audit_heights_1_0 a0 a1
 (fun yl390 yl391 yl392 yi393 yi394 yi395 yi396 _ _ => (jn (fun (yj402 : Bool → Prop) =>
 (cbr (decide (yi396 < yi395))
 (asr (decide ((0 : Int) ≤ yi396))
 (asr (decide (yi396 < (((List.length yl392) : Nat) : Int)))
 (lt (List.getD yl392 (yi396.toNat) .nils) (fun yr404 =>
 (asr (conf (.agg [.i .i64, .i .i64]) yr404)
 (a0 (intOfV (cellAt yr404 0)) (intOfV (cellAt yr404 1)) yi393 yi394 (fun yi405 => 
 (yj402 (yi405 == (0 : Int))))))))))
 (yj402 false)))
 (fun _ => (asr (decide ((0 : Int) ≤ yi396))
 (asr (decide (yi396 < ((n5 : Nat) : Int)))
 (asr (decide ((List.length yl390) = n6))
 (asr (decide ((0 + (yi396.toNat)) < (List.length yl390)))
 (lt (List.getD yl390 (0 + (yi396.toNat)) .nils) (fun yr403 =>
 (asr (conf (.one (.i .i64)) yr403)
 (yj209 (List.set yl390 (0 + (yi396.toNat)) (.int .i64 (1 : Int))) yl391)))))))))))
 n10433800 l0 l1 l1 (intOfV (cellAt yr212 2)) (intOfV (cellAt yr212 3)) (((List.length l1) : Nat) : Int) (0 : Int) (((List.length l1) : Nat) : Int))
 (cbr (!(((intOfV (cellAt yr212 0)) == (intOfV (cellAt yr212 2))) && (((intOfV (cellAt yr212 1)) == (intOfV (cellAt yr212 3))) && true)))
 (x17934300_1 l0 l1)
 (yj209 l0 l1))))))))))
 (fun yl207 yl208 => (lt (IntKind.i64.wrap (i10 + (1 : Int))) (fun yi210 =>
 (L_audit_heights_0_0 a0 a1 x17934300_0 x17934300_1 n17934300 yl207 yl208 l2 i3 i4 n5 n6 n7 l8 i9 yi210)))))
 (x17934300_0 l0 l1 l2 i3 i4 n5 n6 n7 l8 i9 i10 false))
def L_audit_heights_2_0 (a0 : T_audit_order) (a1 : T_s_Equal_int64_int64) (x17934303_0 : List PV → List PV → List PV → List PV → Int → Int → Nat → Nat → Nat → Nat → Nat → Nat → Int → Int → Bool → Prop) (x17934303_1 : List PV → List PV → List PV → Prop) (x17934303_2 : List PV → List PV → List PV → Nat → Nat → Nat → Prop) : Nat → List PV → List PV → List PV → List PV → Int → Int → Nat → Nat → Nat → Nat → Nat → Nat → Int → Int → Prop
 | 0, _, _, _, _, _, _, _, _, _, _, _, _, _, _ => False
 | n17934303 + 1, l0, l1, l2, l3, i4, i5, n6, n7, n8, n9, n10, n11, i12, i13 =>
 (cbr (decide (i13 < i12))
 (asr (clnDOk 1 8 l1 0 n9 n10 true)
 (∃ n17934301 : Nat, L_audit_heights_3_0 a0 a1
 (fun yl2260 yl2261 yl2262 yl2263 yi2264 yi2265 yn2266 yn2267 yn2268 yn2269 yn2270 yn2271 yl2272 _ yi2274 yi2275 _ => (∃ n17934302 : Nat, L_audit_heights_4_0 a0 a1
 (fun yl2296 yl2297 yl2298 yl2299 yi2300 yi2301 yn2302 yn2303 yn2304 yn2305 yn2306 yn2307 yl2308 yi2309 yi2310 _ _ _ _ => (asr (decide ((0 : Int) < ((yn2305 : Nat) : Int)))
 (asr (decide ((List.length yl2297) = yn2306))
 (asr (decide (0 < (List.length yl2297)))
 (lt (List.getD yl2297 0 .nils) (fun yr2318 =>
 (asr (conf (.one (.i .i64)) yr2318)
 (cbr (decide ((intOfV yr2318) > (0 : Int)))
 (x17934303_1 yl2296 yl2297 yl2298)
 (asr (decide ((List.length yl2297) = yn2306))
 (asr (decide ((0 + yn2305) ≤ yn2306))
 (a1 (List.take yn2305 yl2297) yl2308 (fun yb2320 => 
 (cbr yb2320
 (asr (decide ((0 : Int) < ((yn2302 : Nat) : Int)))
 (asr (decide ((List.length yl2296) = yn2303))
 (asr (decide (0 < (List.length yl2296)))
 (lt (List.getD yl2296 0 .nils) (fun yr2324 =>
 (asr (conf (.one (.i .i64)) yr2324)
 (cbr (decide ((intOfV yr2324) > (0 : Int)))
 (x17934303_1 yl2296 yl2297 yl2298)
 (x17934303_2 yl2296 yl2297 yl2298 yn2305 yn2306 yn2307))))))))
 (lt (IntKind.i64.wrap (yi2310 + (1 : Int))) (fun yi2325 =>
 (L_audit_heights_2_0 a0 a1 x17934303_0 x17934303_1 x17934303_2 n17934303 yl2296 yl2297 yl2298 yl2299 yi2300 yi2301 yn2302 yn2303 yn2304 yn2305 yn2306 yn2307 yi2309 yi2325))))))))))))))))
 n17934302 yl2260 yl2261 yl2262 yl2263 yi2264 yi2265 yn2266 yn2267 yn2268 yn2269 yn2270 yn2271 yl2272 yi2274 yi2275 yl2263 (((List.length yl2263) : Nat) : Int) (0 : Int)))
 n17934301 l0 l1 l2 l3 i4 i5 n6 n7 n8 n9 n10 n11 (List.take n9 (List.drop 0 l1)) (1 : Int) i12 i13))
 (x17934303_0 l0 l1 l2 l3 i4 i5 n6 n7 n8 n9 n10 n11 i12 i13 false))
def wv_audit_heights (a0 : T_audit_order) (a1 : T_s_Equal_int64_int64) (p0 p1 : List PV) (p2 : Int) (K0 : Prop) (K : List PV → Prop) : Prop :=
 (lt (IntKind.i64.wrap ((((List.length p0) : Nat) : Int) + (1 : Int))) (fun yi1 =>
 (asr (decide ((0 : Int) ≤ (((List.length p0) : Nat) : Int)))
 (asr (decide ((((List.length p0) : Nat) : Int) ≤ (((List.length p0) : Nat) : Int)))
 (asr (decide (((List.length p0) + 64) * (8 + 1) ≤ room))
 (∃ n17934300 : Nat, L_audit_heights_0_0 a0 a1
 (fun yl420 yl421 yl422 yi423 yi424 yn425 yn426 yn427 _ _ _ _ => (asr (decide ((0 : Int) ≤ (((List.length yl421) : Nat) : Int)))
 (asr (decide ((((List.length yl421) : Nat) : Int) ≤ (((List.length yl421) : Nat) : Int)))
 (asr (decide (((List.length yl421) + 64) * (8 + 1) ≤ room))
 (lt (IntKind.i64.wrap ((((List.length yl421) : Nat) : Int) + (1 : Int))) (fun yi2351 =>
 (∃ n17934303 : Nat, L_audit_heights_2_0 a0 a1
 (fun _ _ _ _ _ _ _ _ _ _ _ _ _ _ _ => K0)
 (fun _ _ _ => K0)
 (fun _ yl2371 _ yn2373 yn2374 _ => (asr (decide ((List.length yl2371) = yn2374))
 (asr (decide ((0 + yn2373) ≤ yn2374))
 (K (List.take yn2373 yl2371)))))
 n17934303 yl420 (List.replicate (List.length yl421) ((.int .i64 (0)) : PV)) yl421 yl422 yi423 yi424 yn425 yn426 yn427 (List.length yl421) (List.length yl421) (List.length yl421) yi2351 (0 : Int))))))))
 (fun _ _ => K0)
 n17934300 (List.replicate (List.length p0) ((.int .i64 (0)) : PV)) p0 p1 p2 yi1 (List.length p0) (List.length p0) (List.length p0) p1 (((List.length p1) : Nat) : Int) (0 : Int)))))))
def w_audit_heights (p0 p1 : List PV) (p2 : Int) (K0 : Prop) (K : List PV → Prop) : Prop := wv_audit_heights w_audit_order w_s_Equal_int64_int64 p0 p1 p2 K0 K
def pw_audit_heights (w : T_audit_heights) (as : List PV) (K : PV → Prop) : Prop :=
 match as with
 | [(.data p0), (.data p1), (.int .i64 p2)] => w p0 p1 p2 (K .nils) (fun r0 => K (.data r0))
 | _ => False
def wp_audit_heights (as : List PV) (K : PV → Prop) : Prop := pw_audit_heights w_audit_heights as K
def D_audit_heights_1 (F : Frm) (H : Hp) (A0 : List PV → List PV → List PV → Int → Int → Int → Int → Int → Prop) (A1 : List PV → List PV → List PV → List PV → Int → Int → Int → Int → Int → Prop) : Prop :=
 match F, H with
 | [(0, .v (.data l2)), (2, .v (.fn (.func q0) [] [])), (4, .box (.agg [(.int .i64 i3), (.int .i64 i4)])), (8, .v (.int .i64 i5)), (9, .v (.int .i64 i6)), (10, .v (.int .i64 i7))], [⟨false, true, 1, [(.data l1)]⟩, ⟨false, true, 1, l0⟩] => asr (Nat.beq q0 n_audit_order) (A0 l0 l1 l2 i3 i4 i5 i6 i7)
 | [(0, .v (.data l3)), (2, .v (.fn (.func q0) [] [])), (4, .box (.agg [(.int .i64 i4), (.int .i64 i5)])), (8, .v (.int .i64 i6)), (9, .v (.int .i64 i7)), (10, .v (.int .i64 i8))], [⟨false, true, 1, [(.data l2)]⟩, ⟨false, true, 1, l0⟩, ⟨false, true, 1, l1⟩] => asr (Nat.beq q0 n_audit_order) (A1 l0 l1 l2 l3 i4 i5 i6 i7 i8)
 | _, _ => False
def D_audit_heights_3 (F : Frm) (H : Hp) (A0 : List PV → List PV → List PV → List PV → Int → Int → Nat → Nat → Nat → Nat → Nat → Nat → List PV → Int → Int → Int → Prop) : Prop :=
 match F, H with
 | [(1, .v (.data l3)), (2, .v (.int .i64 i4)), (7, .v (.fn (.func q0) [] [(.ptr 0 1 0 0)])), (8, .v (.int .i64 i5)), (9, .v (.own 1 0 n6 n7 (some n8))), (12, .v (.own 2 0 n9 n10 (some n11))), (13, .v (.data l12)), (14, .v (.int .i64 i13)), (59, .v (.int .i64 i14)), (60, .v (.int .i64 i15))], [⟨false, true, 1, [(.data l2)]⟩, ⟨false, true, 1, l0⟩, ⟨false, true, 1, l1⟩] => asr (Nat.beq q0 n_audit_heights_1) (A0 l0 l1 l2 l3 i4 i5 n6 n7 n8 n9 n10 n11 l12 i13 i14 i15)
 | _, _ => False
def D_audit_heights_4 (F : Frm) (H : Hp) (A0 : List PV → List PV → List PV → List PV → Int → Int → Nat → Nat → Nat → Nat → Nat → Nat → List PV → Int → Int → List PV → Int → Int → Prop) : Prop :=
 match F, H with
 | [(1, .v (.data l3)), (2, .v (.int .i64 i4)), (7, .v (.fn (.func q0) [] [(.ptr 0 1 0 0)])), (8, .v (.int .i64 i5)), (9, .v (.own 1 0 n6 n7 (some n8))), (12, .v (.own 2 0 n9 n10 (some n11))), (13, .v (.data l12)), (59, .v (.int .i64 i13)), (60, .v (.int .i64 i14)), (88, .v (.data l15)), (89, .v (.int .i64 i16)), (90, .v (.int .i64 i17))], [⟨false, true, 1, [(.data l2)]⟩, ⟨false, true, 1, l0⟩, ⟨false, true, 1, l1⟩] => asr (Nat.beq q0 n_audit_heights_1) (A0 l0 l1 l2 l3 i4 i5 n6 n7 n8 n9 n10 n11 l12 i13 i14 l15 i16 i17)
 | _, _ => False
def D_audit_heights_0 (F : Frm) (H : Hp) (A0 : List PV → List PV → List PV → Int → Int → Nat → Nat → Nat → List PV → Int → Int → Prop) : Prop :=
 match F, H with
 | [(1, .v (.data l2)), (2, .v (.int .i64 i3)), (3, .v (.ptr 0 1 0 0)), (7, .v (.fn (.func q0) [] [(.ptr 0 1 0 0)])), (8, .v (.int .i64 i4)), (9, .v (.own 1 0 n5 n6 (some n7))), (27, .v (.data l8)), (28, .v (.int .i64 i9)), (29, .v (.int .i64 i10))], [⟨false, true, 1, [(.data l1)]⟩, ⟨false, true, 1, l0⟩] => asr (Nat.beq q0 n_audit_heights_1) (A0 l0 l1 l2 i3 i4 n5 n6 n7 l8 i9 i10)
 | _, _ => False
def D_audit_heights_2 (F : Frm) (H : Hp) (A0 : List PV → List PV → List PV → List PV → Int → Int → Nat → Nat → Nat → Nat → Nat → Nat → Int → Int → Prop) : Prop :=
 match F, H with
 | [(1, .v (.data l3)), (2, .v (.int .i64 i4)), (7, .v (.fn (.func q0) [] [(.ptr 0 1 0 0)])), (8, .v (.int .i64 i5)), (9, .v (.own 1 0 n6 n7 (some n8))), (12, .v (.own 2 0 n9 n10 (some n11))), (59, .v (.int .i64 i12)), (60, .v (.int .i64 i13))], [⟨false, true, 1, [(.data l2)]⟩, ⟨false, true, 1, l0⟩, ⟨false, true, 1, l1⟩] => asr (Nat.beq q0 n_audit_heights_1) (A0 l0 l1 l2 l3 i4 i5 n6 n7 n8 n9 n10 n11 i12 i13)
 | _, _ => False
def X_audit_heights_1_0 (Q : Ex → Frm → Hp → Prop) : List PV → List PV → List PV → Int → Int → Int → Int → Int → Bool → Prop := (fun l0 l1 l2 i3 i4 i5 i6 i7 b8 => Q (.exit 0) [(0, .v (.data l2)), (2, .v (.fn (.func n_audit_order) [] [])), (4, .box (.agg [(.int .i64 i3), (.int .i64 i4)])), (8, .v (.int .i64 i5)), (9, .v (.int .i64 i6)), (10, .v (.int .i64 i7)), (17, .v (.bool b8))] [⟨false, true, 1, ([(.data l1)] : List PV)⟩, ⟨false, true, 1, l0⟩])
def X_audit_heights_1_1 (Q : Ex → Frm → Hp → Prop) : List PV → List PV → List PV → List PV → Int → Int → Int → Int → Int → Bool → Prop := (fun l0 l1 l2 l3 i4 i5 i6 i7 i8 b9 => Q (.exit 0) [(0, .v (.data l3)), (2, .v (.fn (.func n_audit_order) [] [])), (4, .box (.agg [(.int .i64 i4), (.int .i64 i5)])), (8, .v (.int .i64 i6)), (9, .v (.int .i64 i7)), (10, .v (.int .i64 i8)), (17, .v (.bool b9))] [⟨false, true, 1, ([(.data l2)] : List PV)⟩, ⟨false, true, 1, l0⟩, ⟨false, true, 1, l1⟩])
def X_audit_heights_3_0 (Q : Ex → Frm → Hp → Prop) : List PV → List PV → List PV → List PV → Int → Int → Nat → Nat → Nat → Nat → Nat → Nat → List PV → Int → Int → Int → Bool → Prop := (fun l0 l1 l2 l3 i4 i5 n6 n7 n8 n9 n10 n11 l12 i13 i14 i15 b16 => Q (.exit 5) [(1, .v (.data l3)), (2, .v (.int .i64 i4)), (7, .v (.fn (.func n_audit_heights_1) [] [(.ptr 0 1 0 0)])), (8, .v (.int .i64 i5)), (9, .v (.own 1 0 n6 n7 (some n8))), (12, .v (.own 2 0 n9 n10 (some n11))), (13, .v (.data l12)), (14, .v (.int .i64 i13)), (59, .v (.int .i64 i14)), (60, .v (.int .i64 i15)), (67, .v (.bool b16))] [⟨false, true, 1, ([(.data l2)] : List PV)⟩, ⟨false, true, 1, l0⟩, ⟨false, true, 1, l1⟩])
def X_audit_heights_4_0 (Q : Ex → Frm → Hp → Prop) : List PV → List PV → List PV → List PV → Int → Int → Nat → Nat → Nat → Nat → Nat → Nat → List PV → Int → Int → List PV → Int → Int → Bool → Prop := (fun l0 l1 l2 l3 i4 i5 n6 n7 n8 n9 n10 n11 l12 i13 i14 l15 i16 i17 b18 => Q (.exit 7) [(1, .v (.data l3)), (2, .v (.int .i64 i4)), (7, .v (.fn (.func n_audit_heights_1) [] [(.ptr 0 1 0 0)])), (8, .v (.int .i64 i5)), (9, .v (.own 1 0 n6 n7 (some n8))), (12, .v (.own 2 0 n9 n10 (some n11))), (13, .v (.data l12)), (59, .v (.int .i64 i13)), (60, .v (.int .i64 i14)), (88, .v (.data l15)), (89, .v (.int .i64 i16)), (90, .v (.int .i64 i17)), (91, .v (.bool b18))] [⟨false, true, 1, ([(.data l2)] : List PV)⟩, ⟨false, true, 1, l0⟩, ⟨false, true, 1, l1⟩])
def X_audit_heights_0_0 (Q : Ex → Frm → Hp → Prop) : List PV → List PV → List PV → Int → Int → Nat → Nat → Nat → List PV → Int → Int → Bool → Prop := (fun l0 l1 l2 i3 i4 n5 n6 n7 l8 i9 i10 b11 => Q (.exit 0) [(1, .v (.data l2)), (2, .v (.int .i64 i3)), (3, .v (.ptr 0 1 0 0)), (7, .v (.fn (.func n_audit_heights_1) [] [(.ptr 0 1 0 0)])), (8, .v (.int .i64 i4)), (9, .v (.own 1 0 n5 n6 (some n7))), (27, .v (.data l8)), (28, .v (.int .i64 i9)), (29, .v (.int .i64 i10)), (30, .v (.bool b11))] [⟨false, true, 1, ([(.data l1)] : List PV)⟩, ⟨false, true, 1, l0⟩])
def X_audit_heights_0_1 (Q : Ex → Frm → Hp → Prop) : List PV → List PV → Prop := (fun l0 l1 => Q .ret [(6, .v .nils)] [⟨false, true, 1, ([(.data l1)] : List PV)⟩, ⟨false, true, 1, l0⟩])
def X_audit_heights_2_0 (Q : Ex → Frm → Hp → Prop) : List PV → List PV → List PV → List PV → Int → Int → Nat → Nat → Nat → Nat → Nat → Nat → Int → Int → Bool → Prop := (fun l0 l1 l2 l3 i4 i5 n6 n7 n8 n9 n10 n11 i12 i13 b14 => Q (.exit 3) [(1, .v (.data l3)), (2, .v (.int .i64 i4)), (7, .v (.fn (.func n_audit_heights_1) [] [(.ptr 0 1 0 0)])), (8, .v (.int .i64 i5)), (9, .v (.own 1 0 n6 n7 (some n8))), (12, .v (.own 2 0 n9 n10 (some n11))), (59, .v (.int .i64 i12)), (60, .v (.int .i64 i13)), (61, .v (.bool b14))] [⟨false, true, 1, ([(.data l2)] : List PV)⟩, ⟨false, true, 1, l0⟩, ⟨false, true, 1, l1⟩])
def X_audit_heights_2_1 (Q : Ex → Frm → Hp → Prop) : List PV → List PV → List PV → Prop := (fun l0 l1 l2 => Q .ret [(6, .v .nils)] [⟨false, true, 1, ([(.data l2)] : List PV)⟩, ⟨false, true, 1, l0⟩, ⟨false, true, 1, l1⟩])
def X_audit_heights_2_2 (Q : Ex → Frm → Hp → Prop) : List PV → List PV → List PV → Nat → Nat → Nat → Prop := (fun l0 l1 l2 n3 n4 n5 => Q .ret [(6, .v (.own 2 0 n3 n4 (some n5)))] [⟨false, true, 1, ([(.data l2)] : List PV)⟩, ⟨false, true, 1, l0⟩, ⟨false, true, 1, l1⟩])
def R_audit_heights_1 (a0 : T_audit_order) (a1 : T_s_Equal_int64_int64) (Q : Ex → Frm → Hp → Prop) (n : Nat) (F : Frm) (H : Hp) : Prop := D_audit_heights_1 F H (fun l0 l1 l2 i3 i4 i5 i6 i7 => L_audit_heights_1_0 a0 a1 (X_audit_heights_1_0 Q) n l0 l1 l2 i3 i4 i5 i6 i7) (fun l0 l1 l2 l3 i4 i5 i6 i7 i8 => L_audit_heights_1_1 a0 a1 (X_audit_heights_1_1 Q) n l0 l1 l2 l3 i4 i5 i6 i7 i8)
def R_audit_heights_3 (a0 : T_audit_order) (a1 : T_s_Equal_int64_int64) (Q : Ex → Frm → Hp → Prop) (n : Nat) (F : Frm) (H : Hp) : Prop := D_audit_heights_3 F H (fun l0 l1 l2 l3 i4 i5 n6 n7 n8 n9 n10 n11 l12 i13 i14 i15 => L_audit_heights_3_0 a0 a1 (X_audit_heights_3_0 Q) n l0 l1 l2 l3 i4 i5 n6 n7 n8 n9 n10 n11 l12 i13 i14 i15)
def R_audit_heights_4 (a0 : T_audit_order) (a1 : T_s_Equal_int64_int64) (Q : Ex → Frm → Hp → Prop) (n : Nat) (F : Frm) (H : Hp) : Prop := D_audit_heights_4 F H (fun l0 l1 l2 l3 i4 i5 n6 n7 n8 n9 n10 n11 l12 i13 i14 l15 i16 i17 => L_audit_heights_4_0 a0 a1 (X_audit_heights_4_0 Q) n l0 l1 l2 l3 i4 i5 n6 n7 n8 n9 n10 n11 l12 i13 i14 l15 i16 i17)
def R_audit_heights_0 (a0 : T_audit_order) (a1 : T_s_Equal_int64_int64) (Q : Ex → Frm → Hp → Prop) (n : Nat) (F : Frm) (H : Hp) : Prop := D_audit_heights_0 F H (fun l0 l1 l2 i3 i4 n5 n6 n7 l8 i9 i10 => L_audit_heights_0_0 a0 a1 (X_audit_heights_0_0 Q) (X_audit_heights_0_1 Q) n l0 l1 l2 i3 i4 n5 n6 n7 l8 i9 i10)
def R_audit_heights_2 (a0 : T_audit_order) (a1 : T_s_Equal_int64_int64) (Q : Ex → Frm → Hp → Prop) (n : Nat) (F : Frm) (H : Hp) : Prop := D_audit_heights_2 F H (fun l0 l1 l2 l3 i4 i5 n6 n7 n8 n9 n10 n11 i12 i13 => L_audit_heights_2_0 a0 a1 (X_audit_heights_2_0 Q) (X_audit_heights_2_1 Q) (X_audit_heights_2_2 Q) n l0 l1 l2 l3 i4 i5 n6 n7 n8 n9 n10 n11 i12 i13)
def lp_audit_heights (a0 : T_audit_order) (a1 : T_s_Equal_int64_int64) : LP := fun id F H Q =>
 bif Nat.beq id 10433800 then D_audit_heights_1 F H (fun l0 l1 l2 i3 i4 i5 i6 i7 => ∃ n : Nat, L_audit_heights_1_0 a0 a1 (X_audit_heights_1_0 Q) n l0 l1 l2 i3 i4 i5 i6 i7) (fun l0 l1 l2 l3 i4 i5 i6 i7 i8 => ∃ n : Nat, L_audit_heights_1_1 a0 a1 (X_audit_heights_1_1 Q) n l0 l1 l2 l3 i4 i5 i6 i7 i8) else
 bif Nat.beq id 17934301 then D_audit_heights_3 F H (fun l0 l1 l2 l3 i4 i5 n6 n7 n8 n9 n10 n11 l12 i13 i14 i15 => ∃ n : Nat, L_audit_heights_3_0 a0 a1 (X_audit_heights_3_0 Q) n l0 l1 l2 l3 i4 i5 n6 n7 n8 n9 n10 n11 l12 i13 i14 i15) else
 bif Nat.beq id 17934302 then D_audit_heights_4 F H (fun l0 l1 l2 l3 i4 i5 n6 n7 n8 n9 n10 n11 l12 i13 i14 l15 i16 i17 => ∃ n : Nat, L_audit_heights_4_0 a0 a1 (X_audit_heights_4_0 Q) n l0 l1 l2 l3 i4 i5 n6 n7 n8 n9 n10 n11 l12 i13 i14 l15 i16 i17) else
 bif Nat.beq id 17934300 then D_audit_heights_0 F H (fun l0 l1 l2 i3 i4 n5 n6 n7 l8 i9 i10 => ∃ n : Nat, L_audit_heights_0_0 a0 a1 (X_audit_heights_0_0 Q) (X_audit_heights_0_1 Q) n l0 l1 l2 i3 i4 n5 n6 n7 l8 i9 i10) else
 bif Nat.beq id 17934303 then D_audit_heights_2 F H (fun l0 l1 l2 l3 i4 i5 n6 n7 n8 n9 n10 n11 i12 i13 => ∃ n : Nat, L_audit_heights_2_0 a0 a1 (X_audit_heights_2_0 Q) (X_audit_heights_2_1 Q) (X_audit_heights_2_2 Q) n l0 l1 l2 l3 i4 i5 n6 n7 n8 n9 n10 n11 i12 i13) else
 False
def S0_audit_heights (a0 : T_audit_order) (a1 : T_s_Equal_int64_int64) : SE := ⟨(E ef0), lookS [(n_audit_order, pw_audit_order a0), (n_s_Equal_int64_int64, pw_s_Equal_int64_int64 a1)], lookI [(n_audit_heights_1, t_audit_heights_1)], lp_audit_heights a0 a1⟩
def S1_audit_heights (a0 : T_audit_order) (a1 : T_s_Equal_int64_int64) : SE := ⟨(E ef0), lookS [(n_audit_order, pw_audit_order a0), (n_s_Equal_int64_int64, pw_s_Equal_int64_int64 a1)], lookI [(n_audit_heights_1, t_audit_heights_1), (n_s_BinarySearchFunc_api_Ratio_api_Ratio_api_Ratio, t_s_BinarySearchFunc_api_Ratio_api_Ratio_api_Ratio)], lp_audit_heights a0 a1⟩
theorem se0_audit_heights : SEOk (S0_audit_heights w_audit_order w_s_Equal_int64_int64) := seOk_of ⟨(ok_audit_order ef0 effG0), (ok_s_Equal_int64_int64 ef0 effG0), trivial⟩ ⟨⟨by kernel_rfl, by kernel_rfl, rfl, fun as => baseS_none (by kernel_rfl) as, effG0.num _ (by kernel_rfl), (LpOk_no (by kernel_rfl))⟩, trivial⟩ effG0.ok
theorem body_audit_heights_1_0 (a0 a1 Q n l0 l1 l2 i3 i4 i5 i6 i7) : WC (E ef0) (callW (S0_audit_heights a0 a1) 5) (lp_audit_heights a0 a1) b_10433800 [(0, .v (.data l2)), (2, .v (.fn (.func n_audit_order) [] [])), (4, .box (.agg [(.int .i64 i3), (.int .i64 i4)])), (8, .v (.int .i64 i5)), (9, .v (.int .i64 i6)), (10, .v (.int .i64 i7))] [⟨false, true, 1, ([(.data l1)] : List PV)⟩, ⟨false, true, 1, l0⟩] (fun x F' H' => match x with | .norm => R_audit_heights_1 a0 a1 Q n F' H' | .exit i => Q (.exit i) F' H' | .ret => Q .ret F' H') = L_audit_heights_1_0 a0 a1 (X_audit_heights_1_0 Q) (n + 1) l0 l1 l2 i3 i4 i5 i6 i7 := by kernel_rfl
theorem body_audit_heights_1_1 (a0 a1 Q n l0 l1 l2 l3 i4 i5 i6 i7 i8) : WC (E ef0) (callW (S0_audit_heights a0 a1) 5) (lp_audit_heights a0 a1) b_10433800 [(0, .v (.data l3)), (2, .v (.fn (.func n_audit_order) [] [])), (4, .box (.agg [(.int .i64 i4), (.int .i64 i5)])), (8, .v (.int .i64 i6)), (9, .v (.int .i64 i7)), (10, .v (.int .i64 i8))] [⟨false, true, 1, ([(.data l2)] : List PV)⟩, ⟨false, true, 1, l0⟩, ⟨false, true, 1, l1⟩] (fun x F' H' => match x with | .norm => R_audit_heights_1 a0 a1 Q n F' H' | .exit i => Q (.exit i) F' H' | .ret => Q .ret F' H') = L_audit_heights_1_1 a0 a1 (X_audit_heights_1_1 Q) (n + 1) l0 l1 l2 l3 i4 i5 i6 i7 i8 := by kernel_rfl
theorem lpb_audit_heights_1 : LpOk (E ef0) (lp_audit_heights w_audit_order w_s_Equal_int64_int64) b_10433800 := (LpOk_no (by kernel_rfl))
end Go.Pf.Vc
