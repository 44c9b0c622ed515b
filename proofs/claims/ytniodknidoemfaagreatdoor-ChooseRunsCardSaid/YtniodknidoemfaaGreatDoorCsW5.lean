/- Part 5 of what the statement rests on: a verified evaluator over pure values, the conditions of the program's functions, and their plain laws. -/
import Derived.Test.YtniodknidoemfaaGreatDoorCsW4
namespace Go.Pf.Vc
open Go Go.Pf
section
variable {l : List Ck}
theorem half_eq {c : Ck} (hok : c.ok) (K : Int → Int → Prop) : w_choose_half c.len (ints c.cuts) (ints c.dens) K = K (hlf c).num (hlf c).den := by
 unfold w_choose_half wv_choose_half
 have tb := totC_bound hok
 have h1 := VC.l1 hok; have h2 := VC.l2 hok
 rw [cTotal_eq (by omega) (by omega), if_pos (VC.ck hok), rMake_eq ⟨by omega, by omega⟩ ⟨by omega, by omega⟩ (by omega), fitK_if]
 have := hlf_small hok
 unfold hlf shr at this
 rw [if_pos this]; rfl
theorem rHalf_eq {c : Ck} (hok : c.ok) (K : Int → Int → Prop) : w_r07_Half c.len (ints c.cuts) (ints c.dens) K = K (hlf c).num (hlf c).den := by
 unfold w_r07_Half wv_r07_Half
 have tb := totC_bound hok
 rw [dWhole_eq hok, sMake_eq ⟨by omega, by omega⟩ ⟨by omega, by omega⟩ (by omega), fitK_if]
 have := hlf_small hok
 unfold hlf shr at this
 rw [if_pos this]; rfl
theorem qryK_ok {lg : List PV} {row : Rat → PV} {p : Rat} {K} : qryK l lg row (.ok p) K = K (cks l) (lg ++ [row p]) p.num p.den 0 := rfl
theorem cmpQ_ge (x y : Rat) : decide (cmpQ x y ≥ 0) = !decide (x < y) := by
 unfold cmpQ
 by_cases h : x < y
 · simp [h]
 · by_cases h2 : y < x <;> simp [h, h2]
theorem step0_eq (hd : DK l) (h2 : l.length = 2) {c : Nat} (hc : c ≤ 1) (K) : stK l c 0 (fun a b x y z u w => w_choose_step a b x y z u w K) = stK l c 1 K := by
 have ok := hd.ok c (by omega)
 have hs := hlf_small ok
 show w_choose_step (cks l) (logs []) c ((0 : Nat) : Int) (0 : Rat).num (0 : Rat).den false K = _
 unfold w_choose_step wv_choose_step
 rw [ceT (show ((0 : Nat) : Int) = 0 from rfl), cks_len, Int.toNat_natCast, cks_at (by omega), asT (by omega), asT (by omega), asCk, ck0, ck1, ck2, half_eq ok]
 show w_ask_Mark (cks l) (logs []) c 0 1 _ _ _ = _
 rw [
   aMark_eq hd.fin (by omega) (logs_head _) ⟨by omega, by omega⟩ ⟨by omega, by omega⟩ hs.i1 hs.i2, show (logs []).length = 0 from rfl, ask_mark hd (by omega) 0 (by omega), qryK_ok]
 rfl
theorem step1_eq (hd : DK l) (h2 : l.length = 2) {c : Nat} (hc : c ≤ 1) (K) : stK l c 1 (fun a b x y z u w => w_choose_step a b x y z u w K) = stK l c 2 K := by
 have ok := hd.ok (1 - c) (by omega)
 have hs := hlf_small ok
 have ps := chP_small hd (c := c) (by omega)
 have vs := (chV_ok hd h2 hc).2
 show w_choose_step (cks l) (logs [chQ1 l c]) c ((1 : Nat) : Int) (chP l c).num (chP l c).den false K = _
 unfold w_choose_step wv_choose_step
 have e1 : IntKind.i64.wrap (1 - (c : Int)) = ((1 - c : Nat) : Int) := by rw [wib (by omega) (by omega)]; omega
 rw [ceF (by decide), e1, aValue_eq hd.fin (by omega) (logs_head _) ⟨by omega, by omega⟩ ⟨by omega, by omega⟩ ps.i1 ps.i2, show (logs [chQ1 l c]).length = 1 from rfl, ask_value hd h2 hc 1 (by omega), qryK_ok]
 rw [cks_len, Int.toNat_natCast, cks_at (by omega), asT (by omega), asT (by omega), asCk, ck0, ck1, ck2, half_eq ok, rCmp_eq vs hs]
 rw [cmpQ_ge]; rfl
theorem rstate_eq (hd : DK l) (h2 : l.length = 2) {c : Nat} (hc : c ≤ 1) {k : Nat} (hk : k ≤ 2) (K) : w_r07_state (cks l) c k K = stK l c k K := by
 have ok := hd.ok c (by omega)
 have ok' := hd.ok (1 - c) (by omega)
 have hs := hlf_small ok
 have hs' := hlf_small ok'
 have ps := chP_small hd (c := c) (by omega)
 have vs := (chV_ok hd h2 hc).2
 have e1 : IntKind.i64.wrap (1 - (c : Int)) = ((1 - c : Nat) : Int) := by rw [wib (by omega) (by omega)]; omega
 unfold w_r07_state wv_r07_state
 rw [Twins_eq hd.low (by omega), sOf_eq]
 rcases (show k = 0 ∨ k = 1 ∨ k = 2 by omega) with rfl | rfl | rfl
 · rw [cbF (by omega), cbF (by omega)]; rfl
 · rw [cbT (by omega), sOf_eq, cks_len, Int.toNat_natCast, cks_at (by omega), asT (by omega), asT (by omega), asCk, ck0, ck1, ck2, rHalf_eq ok]
   show w_r04_Mark (cks l) (logs []) c 0 1 _ _ _ = _
   rw [fMark_eq hd.fin (by omega) (logs_head _) ⟨by omega, by omega⟩ ⟨by omega, by omega⟩ hs.i1 hs.i2, show (logs []).length = 0 from rfl, ask_mark hd (by omega) 0 (by omega), qryK_ok, cbF (by omega)]
   rfl
 · rw [cbT (by omega), sOf_eq, cks_len, Int.toNat_natCast, cks_at (by omega), asT (by omega), asT (by omega), asCk, ck0, ck1, ck2, rHalf_eq ok]
   show w_r04_Mark (cks l) (logs []) c 0 1 _ _ _ = _
   rw [fMark_eq hd.fin (by omega) (logs_head _) ⟨by omega, by omega⟩ ⟨by omega, by omega⟩ hs.i1 hs.i2, show (logs []).length = 0 from rfl, ask_mark hd (by omega) 0 (by omega), qryK_ok, cbT (by omega), sOf_eq, e1]
   show w_r04_Value (cks l) (logs [chQ1 l c]) _ 0 1 _ _ _ = _
   rw [fValue_eq hd.fin (by omega) (logs_head _) ⟨by omega, by omega⟩ ⟨by omega, by omega⟩ ps.i1 ps.i2, show (logs [chQ1 l c]).length = 1 from rfl, ask_value hd h2 hc 1 (by omega), qryK_ok]
   rw [Int.toNat_natCast, cks_at (by omega), asT (by omega), asT (by omega), asCk, ck0, ck1, ck2, rHalf_eq ok', sLess_eq vs hs']
   rfl
end
end Go.Pf.Vc
namespace Go.Pf.Vc
open Go Go.Pf
section
variable {l : List Ck}
def cakE (l : List Ck) (cutter : Int) : Int := if deskE l 0 = 0 then (if l.length = 2 ∧ 0 ≤ cutter ∧ cutter ≤ 1 then 0 else 2) else deskE l 0
theorem cakE_zero {cutter : Int} (h : cakE l cutter = 0) : DK l ∧ l.length = 2 ∧ ∃ c : Nat, c ≤ 1 ∧ cutter = c := by
 unfold cakE at h
 split at h
 · rename_i h0
   split at h
   · rename_i h1
     exact ⟨(deskE_zero h0).1, h1.1, cutter.toNat, by omega, by omega⟩
   · omega
 · rename_i h0; exact absurd h h0
theorem DK.cak (hd : DK l) (h2 : l.length = 2) {c : Nat} (hc : c ≤ 1) : cakE l c = 0 := by
 unfold cakE
 rw [if_pos (hd.err (by omega)), if_pos ⟨h2, by omega, by omega⟩]
theorem Start_eq (hf : finC l) (hl : l.length < 4611686018427387904) (cutter : Int) (K) : w_choose_Start (cks l) cutter K = if cakE l cutter = 0 then K (cks l) [] cutter 0 0 1 false 0 else K [] [] 0 0 0 0 false (cakE l cutter) := by
 unfold w_choose_Start wv_choose_Start
 rw [aOpen_eq hf hl, cks_len]
 by_cases h : deskE l 0 = 0
 · rw [if_pos h, cnF rfl]
   by_cases hc : l.length = 2 ∧ 0 ≤ cutter ∧ cutter ≤ 1
   · have e : cakE l cutter = 0 := by unfold cakE; rw [if_pos h, if_pos hc]
     rw [e, if_pos rfl, cnF (by omega), cbF (by omega), cbF (by omega)]
   · have e : cakE l cutter = 2 := by unfold cakE; rw [if_pos h, if_neg hc]
     rw [e, if_neg (by decide)]
     by_cases h2 : l.length = 2
     · rw [cnF (by omega)]
       by_cases h3 : cutter < 0
       · rw [cbT h3]
       · rw [cbF h3, cbT (by omega)]
     · rw [cnT (by omega)]
 · have e : cakE l cutter = deskE l 0 := by unfold cakE; rw [if_neg h]
   rw [e, if_neg h, cnT h, if_neg h]
theorem rCakes_eq (hf : finC l) (hl : l.length < 4611686018427387904) (cutter : Int) (K) : w_r07_Cakes (cks l) cutter K = K (cakE l cutter) := by
 unfold w_r07_Cakes wv_r07_Cakes cakE
 rw [fCheck_eq hf hl, cks_len]
 show cbr (deskE l 0 != 0) _ _ = _
 by_cases h : deskE l 0 = 0
 · rw [cnF h, if_pos h]
   by_cases h2 : l.length = 2
   · rw [cnF (by omega)]
     by_cases h3 : cutter < 0
     · rw [cbT h3, if_neg (fun x => by omega)]
     · rw [cbF h3]
       by_cases h4 : cutter > 1
       · rw [cbT h4, if_neg (fun x => by omega)]
       · rw [cbF h4, if_pos ⟨h2, by omega, by omega⟩]
   · rw [cnT (by omega), if_neg (fun x => h2 x.1)]
 · rw [cnT h, if_neg h]; rfl
theorem rStart_eq (hf : finC l) (hl : l.length < 4611686018427387904) (cutter : Int) (K) : w_r07_Start (cks l) cutter K = if cakE l cutter = 0 then K (cks l) [] cutter 0 0 1 false 0 else K [] [] 0 0 0 0 false (cakE l cutter) := by
 unfold w_r07_Start wv_r07_Start
 rw [rCakes_eq hf hl]
 by_cases h : cakE l cutter = 0
 · obtain ⟨hd, h2, c, hc, rfl⟩ := cakE_zero h
   rw [cnF h, if_pos h]
   show w_r07_state (cks l) c ((0 : Nat) : Int) _ = _
   rw [rstate_eq hd h2 hc (by omega)]; rfl
 · rw [cnT h, if_neg h, rCakes_eq hf hl]
theorem stepA (hd : DK l) (h2 : l.length = 2) {c : Nat} (hc : c ≤ 1) (K) : w_choose_step (cks l) [] c 0 0 1 false K = K (cks l) (logs (chLog l c 1)) c 1 (chP l c).num (chP l c).den false := step0_eq hd h2 hc K
theorem stepB (hd : DK l) (h2 : l.length = 2) {c : Nat} (hc : c ≤ 1) (K) : w_choose_step (cks l) (logs (chLog l c 1)) c 1 (chP l c).num (chP l c).den false K = K (cks l) (logs (chLog l c 2)) c 2 (chP l c).num (chP l c).den (chLeft l c 2) := step1_eq hd h2 hc K
def chkE (l : List Ck) (lg : List Qy) (cutter step an ad : Int) (left : Bool) : Int :=
 if deskE l lg.length = 0 then (if cakE l cutter = 0 then (if 0 ≤ step ∧ step ≤ 2 ∧ lg = chLog l cutter.toNat step.toNat ∧ an = (chAt l cutter.toNat step.toNat).num ∧ ad = (chAt l cutter.toNat step.toNat).den ∧ left = chLeft l cutter.toNat step.toNat then 0 else 8) else cakE l cutter) else deskE l lg.length
theorem chLog_len (l : List Ck) (c k : Nat) : (chLog l c k).length ≤ 2 := by
 match k with
 | 0 => exact Nat.zero_le _
 | 1 => exact Nat.le_succ _
 | k + 2 => exact Nat.le_refl _
theorem chk_end {c k : Nat} {lg : List Qy} (hlg : lg.length < 4611686018427387904) {step an ad : Int} {left : Bool} (hk : k ≤ 2) (K : Int → Prop)
   (hmin : (k : Int) = step ∨ ¬ (0 ≤ step ∧ step ≤ 2)) :
   cbr ((k : Int) != step) (K 8) (cbr (!(((chAt l c k).num == an) && ((((chAt l c k).den : Nat) : Int) == ad && true))) (K 8) (cbr (chLeft l c k != left) (K 8) (w_s_Equal_api_Query_api_Query (logs (chLog l c k)) (logs lg) (fun yb38 => (cbr (!yb38) (K 8) (K 0)))))) =
   K (if 0 ≤ step ∧ step ≤ 2 ∧ lg = chLog l c step.toNat ∧ an = (chAt l c step.toNat).num ∧ ad = (chAt l c step.toNat).den ∧ left = chLeft l c step.toNat then 0 else 8) := by
 have hcl := chLog_len l c k
 by_cases e : (k : Int) = step
 · subst e
   rw [cnF rfl, Int.toNat_natCast, qEqual_eq (by omega) hlg]
   by_cases e1 : (chAt l c k).num = an
   · by_cases e2 : ((chAt l c k).den : Int) = ad
     · rw [beq_t e1, beq_t e2]
       show cbr (!(true && (true && true))) _ _ = _
       simp only [Bool.and_self, Bool.not_true, cbr_false]
       by_cases e3 : chLeft l c k = left
       · have b3 : (chLeft l c k != left) = false := by simp [e3]
         rw [b3, cbr_false]
         by_cases e4 : chLog l c k = lg
         · rw [decide_eq_true e4, Bool.not_true, cbr_false, if_pos ⟨by omega, by omega, e4.symm, e1.symm, e2.symm, e3.symm⟩]
         · rw [decide_eq_false e4, Bool.not_false, cbr_true, if_neg (fun x => e4 x.2.2.1.symm)]
       · have b3 : (chLeft l c k != left) = true := by simpa using e3
         rw [b3, cbr_true, if_neg (fun x => e3 x.2.2.2.2.2.symm)]
     · rw [beq_f e2, Bool.false_and, Bool.and_false, Bool.not_false, cbr_true, if_neg (fun x => e2 x.2.2.2.2.1.symm)]
   · rw [beq_f e1, Bool.false_and, Bool.not_false, cbr_true, if_neg (fun x => e1 x.2.2.2.1.symm)]
 · rw [cnT e, if_neg (fun x => (hmin.resolve_left e) ⟨x.1, x.2.1⟩)]
theorem Check_eq' (hf : finC l) (hl : l.length < 4611686018427387904) {lg : List Qy} (hlg : lg.length < 4611686018427387904) (cutter step an ad : Int) (left : Bool) (K : Int → Prop) :
   w_choose_Check (cks l) (logs lg) cutter step an ad left K = K (chkE l lg cutter step an ad left) := by
 refine det_choose_Check _ _ _ _ _ _ _ _ (fun K kk => ?_) K
 unfold w_choose_Check wv_choose_Check
 unfold chkE at kk
 rw [aCheck_eq hf hl, logs_len]
 by_cases h : deskE l lg.length = 0
 case neg => rw [cnT h]; rw [if_neg h] at kk; exact kk
 rw [if_pos h] at kk
 rw [cnF h, Start_eq hf hl]
 by_cases hc0 : cakE l cutter = 0
 case neg => rw [if_neg hc0, cnT hc0]; rw [if_neg hc0] at kk; exact kk
 rw [if_pos hc0] at kk
 rw [if_pos hc0, cnF rfl]
 obtain ⟨hd, h2, c, hc, rfl⟩ := cakE_zero hc0
 rw [Int.toNat_natCast] at kk
 by_cases t0 : step ≤ 0
 · refine ⟨0 + 1, ?_⟩
   rw [L_choose_Check_0_0, cbF (by split <;> omega)]
   refine (chk_end (l := l) (c := c) (k := 0) hlg (by omega) K (by omega)).mpr kk
 by_cases t1 : step = 1
 · subst t1
   refine ⟨(0 + 1) + 1, ?_⟩
   rw [L_choose_Check_0_0, cbT (by decide), stepA hd h2 hc, L_choose_Check_0_1, cbF (by decide)]
   exact (chk_end (l := l) (c := c) (k := 1) hlg (by omega) K (by omega)).mpr kk
 · refine ⟨((0 + 1) + 1) + 1, ?_⟩
   rw [L_choose_Check_0_0, cbT (by split <;> omega), stepA hd h2 hc, L_choose_Check_0_1, cbT (by split <;> omega), stepB hd h2 hc, L_choose_Check_0_1, cbF (by split <;> omega)]
   exact (chk_end (l := l) (c := c) (k := 2) hlg (by omega) K (by omega)).mpr kk
def spL (l : List Ck) (c : Nat) : Sp := ⟨0, 1, (chP l c).num, (chP l c).den⟩
def spR (l : List Ck) (c : Nat) : Sp := ⟨(chP l c).num, (chP l c).den, (l.getD 0 default).len, 1⟩
def chDiv (l : List Ck) (c : Nat) : List (List Sp) := if chLeft l c 2 = decide (c = 1) then [[spL l c], [spR l c]] else [[spR l c], [spL l c]]
theorem divided_eq (h2 : l.length = 2) {c : Nat} (K) : w_r07_divided (cks l) (logs (chLog l c 2)) c 2 (chP l c).num (chP l c).den (chLeft l c 2) K = K (pieces (chDiv l c)) := by
 unfold w_r07_divided wv_r07_divided
 rw [sOf_eq, cks_len, cks_at (by omega), asT (by omega), asCk, ck0, sOf_eq]
 unfold chDiv
 have e : (((c : Int) == 1) : Bool) = decide (c = 1) := by
   by_cases h : c = 1
   · subst h; rfl
   · rw [decide_eq_false h, beq_f (by omega)]
 rw [e]
 by_cases h : chLeft l c 2 = decide (c = 1)
 · rw [if_pos h, h, beq_self_eq_true, cbr_true]; rfl
 · rw [if_neg h]
   have : (chLeft l c 2 == decide (c = 1)) = false := by simpa using h
   rw [this, cbr_false]; rfl
theorem prog_div (h2 : l.length = 2) {c : Nat} (hc : c ≤ 1) (hchk : chkE l (chLog l c 2) c 2 (chP l c).num (chP l c).den (chLeft l c 2) = 0) (hf : finC l) (K) : w_choose_Division (cks l) (logs (chLog l c 2)) c 2 (chP l c).num (chP l c).den (chLeft l c 2) K = K (pieces (chDiv l c)) 0 := by
 unfold w_choose_Division wv_choose_Division
 have hcl := chLog_len l c 2
 rw [Check_eq' hf (by omega) (by omega), hchk, cnF rfl, cbF (by decide)]
 unfold chDiv
 rw [cks_len, cks_at (by omega), h2]
 rcases (show c = 0 ∨ c = 1 by omega) with rfl | rfl
 · cases chLeft l 0 2 <;> rfl
 · cases chLeft l 1 2 <;> rfl
end
end Go.Pf.Vc
namespace Go.Pf.Vc
open Go Go.Pf
section
variable {l : List Ck}
theorem chk_state (hd : DK l) (h2 : l.length = 2) {c k : Nat} (hc : c ≤ 1) (hk : k ≤ 2) : chkE l (chLog l c k) c k (chAt l c k).num (chAt l c k).den (chLeft l c k) = 0 := by
 have := chLog_len l c k
 unfold chkE
 rw [if_pos (hd.err (by omega)), if_pos (hd.cak h2 hc), Int.toNat_natCast, Int.toNat_natCast, if_pos ⟨by omega, by omega, rfl, rfl, rfl, rfl⟩]
theorem Run_eq (hf : finC l) (hl : l.length < 4611686018427387904) (cutter : Int) (K) : w_choose_Run (cks l) cutter K = if cakE l cutter = 0 then K (pieces (chDiv l cutter.toNat)) (logs (chLog l cutter.toNat 2)) 0 else K [] [] (cakE l cutter) := by
 unfold w_choose_Run wv_choose_Run
 rw [Start_eq hf hl]
 by_cases h : cakE l cutter = 0
 · obtain ⟨hd, h2, c, hc, rfl⟩ := cakE_zero h
   rw [if_pos h, if_pos h, cnF rfl, Int.toNat_natCast, stepA hd h2 hc, stepB hd h2 hc, prog_div h2 hc (chk_state hd h2 hc (k := 2) (by omega)) hf]
 · rw [if_neg h, if_neg h, cnT h]
theorem rRun_eq (hf : finC l) (hl : l.length < 4611686018427387904) (cutter : Int) (K) : w_r07_Run (cks l) cutter K = if cakE l cutter = 0 then K (pieces (chDiv l cutter.toNat)) (logs (chLog l cutter.toNat 2)) 0 else K [] [] (cakE l cutter) := by
 unfold w_r07_Run wv_r07_Run
 rw [rCakes_eq hf hl]
 by_cases h : cakE l cutter = 0
 · obtain ⟨hd, h2, c, hc, rfl⟩ := cakE_zero h
   rw [if_pos h, cnF h, Int.toNat_natCast]
   show w_r07_state (cks l) c ((2 : Nat) : Int) _ = _
   rw [rstate_eq hd h2 hc (by omega)]
   unfold stK
   show w_r07_divided (cks l) (logs (chLog l c 2)) c 2 (chP l c).num (chP l c).den (chLeft l c 2) _ = _
   rw [divided_eq h2]
 · rw [if_neg h, cnT h, rCakes_eq hf hl]
theorem rSame_self (hf : finC l) (hl : l.length < 4611686018427387904) {lg : List Qy} (hlg : lg.length < 4611686018427387904) (a b c d : Int) (e : Bool) (K : Bool → Prop) :
   w_r07_Same (cks l) (logs lg) a b c d e (cks l) (logs lg) a b c d e K = K true := by
 unfold w_r07_Same wv_r07_Same
 rw [fSame_eq hf hl hlg hlg, decide_eq_true rfl, cbr_true, ceT rfl, ceT rfl]
 simp only [beq_self_eq_true, Bool.and_self, cbr_true]
theorem finC_nil : finC [] := fun i hi => absurd hi (Nat.not_lt_zero i)
theorem rSame_nil (a b c d : Int) (e : Bool) (K : Bool → Prop) : w_r07_Same [] [] a b c d e [] [] a b c d e K = K true := rSame_self (l := []) finC_nil (by decide) (lg := []) (by decide) a b c d e K
theorem gSame_nil (K : Bool → Prop) : w_r06_Same [] [] K = K true := gSame_self (l := []) (fun i hi => absurd hi (Nat.not_lt_zero i)) (by decide) K
theorem SameLogs_self {a : List Qy} (ha : a.length < 4611686018427387904) (K : Bool → Prop) : w_r04_SameLogs (logs a) (logs a) K = K true := by
 rw [SameLogs_eq ha ha, decide_eq_true rfl]
theorem SameLogs_nil (K : Bool → Prop) : w_r04_SameLogs [] [] K = K true := SameLogs_self (a := []) (by decide) K
theorem chDiv_small (l : List Ck) (c : Nat) : (chDiv l c).length = 2 ∧ ∀ i, i < (chDiv l c).length → ((chDiv l c).getD i []).length < 4611686018427387904 := by
 unfold chDiv
 split <;> refine ⟨rfl, fun i hi => ?_⟩ <;> (have hi : i < 2 := hi) <;> rcases (show i = 0 ∨ i = 1 by omega) with rfl | rfl <;> exact (by decide : (1 : Nat) < 4611686018427387904)
theorem chDiv_same (l : List Ck) (c : Nat) (K : Bool → Prop) : w_r06_Same (pieces (chDiv l c)) (pieces (chDiv l c)) K = K true := by
 obtain ⟨h1, h2⟩ := chDiv_small l c
 exact gSame_self h2 (by omega) K
end
end Go.Pf.Vc
namespace Go.Pf.Vc
open Go Go.Pf
section
variable {l : List Ck}
theorem ChooseRuns_ok (hl : l.length ≤ 9223372036854775807) (cutter : Int) : w_l07_ChooseRuns (cks l) cutter (fun b => b = true) := by
 unfold w_l07_ChooseRuns wv_l07_ChooseRuns
 rw [GreatCakes_eq hl]
 cases hg : greatC l with
 | true => rw [cbr_true]
 | false =>
   obtain ⟨g1, g2, g3⟩ := greatC_low hg
   rw [cbr_false, Start_eq g3 (by omega)]
   by_cases h : cakE l cutter = 0
   · have hll := chLog_len l cutter.toNat 2
     have rs := rSame_self g3 (by omega) (lg := []) (by decide) cutter 0 0 1 false
     rw [show logs [] = [] from rfl] at rs
     rw [if_pos h, rStart_eq g3 (by omega), if_pos h, Run_eq g3 (by omega), if_pos h, rRun_eq g3 (by omega), if_pos h, rs, cbr_true, ceT rfl, chDiv_same, cbr_true, SameLogs_self (by omega), cbr_true]; rfl
   · rw [if_neg h, rStart_eq g3 (by omega), if_neg h, Run_eq g3 (by omega), if_neg h, rRun_eq g3 (by omega), if_neg h, rSame_nil, cbr_true, ceT rfl, gSame_nil, cbr_true, SameLogs_nil, cbr_true]
     exact beq_self_eq_true _
end
end Go.Pf.Vc
namespace Go.Pf.Vc
open Go Go.Pf
def dsC : DS := .a [.i .i64, .s (.i .i64), .s (.i .i64)]
theorem inK_i64 {n : Int} (h : inK .i64 n) : I64 n := by
 have e1 : IntKind.i64.min = -9223372036854775808 := by decide
 have e2 : IntKind.i64.max = 9223372036854775807 := by decide
 unfold inK at h
 rw [e1, e2] at h
 exact h
theorem F_i {c : List PV} (h : HasF (.i .i64) c) : ∃ n, c = [.int .i64 n] ∧ I64 n := by
 simp only [HasF] at h
 obtain ⟨n, e, k⟩ := h
 exact ⟨n, e, inK_i64 k⟩
theorem ints_of : ∀ (rows : List PV), (∀ x ∈ rows, x.isAgg = (DS.i .i64).isA ∧ HasF (.i .i64) x.cells) → ∃ l : List Int, rows = ints l ∧ ∀ n ∈ l, I64 n
 | [], _ => ⟨[], rfl, by simp⟩
 | x :: r, h => by
   obtain ⟨l, e, hl⟩ := ints_of r (fun y hy => h y (List.mem_cons_of_mem _ hy))
   obtain ⟨h1, h2⟩ := h x (List.mem_cons_self ..)
   obtain ⟨n, e2, hn⟩ := F_i h2
   have ex : x = .int .i64 n := by
     cases x <;> first | (simp only [PV.cells, List.cons.injEq, and_true] at e2; exact e2) | (cases h1)
   refine ⟨n :: l, by rw [ex, e]; rfl, ?_⟩
   intro m hm
   rcases List.mem_cons.1 hm with rfl | hm
   · exact hn
   · exact hl m hm
def Ck.i64 (c : Ck) : Prop := I64 c.len ∧ (∀ n ∈ c.cuts, I64 n) ∧ ∀ n ∈ c.dens, I64 n
theorem F_c {c : List PV} (h : HasF dsC c) : ∃ k : Ck, c = [.int .i64 k.len, .data (ints k.cuts), .data (ints k.dens)] ∧ k.i64 ∧ k.cuts.length ≤ 9223372036854775807 ∧ k.dens.length ≤ 9223372036854775807 := by
 simp only [dsC, HasF, HasL] at h
 obtain ⟨c1, c2, rfl, ⟨n, rfl, hn⟩, c3, c4, rfl, ⟨r1, rfl, l1, h1⟩, c5, c6, rfl, ⟨r2, rfl, l2, h2⟩, rfl⟩ := h
 obtain ⟨a, rfl, ha⟩ := ints_of r1 (fun x hx => ⟨(h1 x hx).1, by simp only [HasF]; exact (h1 x hx).2⟩)
 obtain ⟨b, rfl, hb⟩ := ints_of r2 (fun x hx => ⟨(h2 x hx).1, by simp only [HasF]; exact (h2 x hx).2⟩)
 rw [ints_len] at l1 l2
 exact ⟨⟨n, a, b⟩, rfl, ⟨inK_i64 hn, ha, hb⟩, l1, l2⟩
theorem agg_of {x : PV} {l : List DS} (h : x.isAgg = (DS.a l).isA) : x = .agg x.cells := by
 cases x <;> first | rfl | cases h
theorem cks_of : ∀ (rows : List PV), (∀ x ∈ rows, x.isAgg = dsC.isA ∧ HasF dsC x.cells) → ∃ l : List Ck, rows = cks l ∧ ∀ c ∈ l, c.i64
 | [], _ => ⟨[], rfl, by simp⟩
 | x :: r, h => by
   obtain ⟨l, e, hl⟩ := cks_of r (fun y hy => h y (List.mem_cons_of_mem _ hy))
   obtain ⟨h1, h2⟩ := h x (List.mem_cons_self ..)
   obtain ⟨k, e2, hk, _⟩ := F_c h2
   have ex : x = encC k := by rw [agg_of h1, e2]; rfl
   refine ⟨k :: l, by rw [ex, e]; rfl, ?_⟩
   intro m hm
   rcases List.mem_cons.1 hm with rfl | hm
   · exact hk
   · exact hl m hm
theorem F_cks {c : List PV} (h : HasF (.s dsC) c) : ∃ l : List Ck, c = [.data (cks l)] ∧ l.length ≤ 9223372036854775807 ∧ ∀ k ∈ l, k.i64 := by
 simp only [HasF] at h
 obtain ⟨rows, rfl, hl, hr⟩ := h
 obtain ⟨l, rfl, hi⟩ := cks_of rows hr
 rw [cks_len] at hl
 exact ⟨l, rfl, hl, hi⟩
theorem single_of {x y : PV} (h : x.isAgg = false) (e : x.cells = [y]) : x = y := by
 cases x <;> first | (simp only [PV.cells, List.cons.injEq, and_true] at e; exact e) | cases h
theorem A_cks_i {as : List PV} (h : HasAs [.s dsC, .i .i64] as) : ∃ (l : List Ck) (n : Int), as = [.data (cks l), .int .i64 n] ∧ l.length ≤ 9223372036854775807 ∧ I64 n ∧ ∀ k ∈ l, k.i64 := by
 simp only [HasAs] at h
 obtain ⟨x, r, rfl, x1, x2, y, r2, rfl, y1, y2, rfl⟩ := h
 obtain ⟨l, e1, hl, hi⟩ := F_cks x2
 obtain ⟨n, e2, hn⟩ := F_i y2
 rw [single_of x1 e1, single_of y1 e2]
 exact ⟨l, n, rfl, hl, hn, hi⟩
end Go.Pf.Vc
