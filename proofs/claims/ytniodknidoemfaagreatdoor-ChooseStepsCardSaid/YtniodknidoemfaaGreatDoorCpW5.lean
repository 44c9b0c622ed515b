/- Part 5 of what the statement rests on: a verified evaluator over pure values, the conditions of the program's functions, and their plain laws. -/
import Derived.Test.YtniodknidoemfaaGreatDoorCpW4
namespace Go.Pf.Vc
open Go Go.Pf
section
variable {l : List Ck}
theorem rCakes_eq (hf : finC l) (hl : l.length < 4611686018427387904) (cutter : Int) (K) : w_r07_Cakes (cks l) cutter K = K (cakE l cutter) := by
 unfold w_r07_Cakes wv_r07_Cakes cakE
 rw [fCheck_eq hf hl, cks_len]
 show cbr (deskE l 0 != 0) _ _ = _
 by_cases h : deskE l 0 = 0
 · rw [cnF h, if_pos h]
   by_cases h2 : l.length = 2
   · rw [cnF (by omega)]
     by_cases h3 : cutter < 0
     · rw [cbT h3, if_neg (fun x => by omega)]
     · rw [cbF h3]
       by_cases h4 : cutter > 1
       · rw [cbT h4, if_neg (fun x => by omega)]
       · rw [cbF h4, if_pos ⟨h2, by omega, by omega⟩]
   · rw [cnT (by omega), if_neg (fun x => h2 x.1)]
 · rw [cnT h, if_neg h]; rfl
theorem stepA (hd : DK l) (h2 : l.length = 2) {c : Nat} (hc : c ≤ 1) (K) : w_choose_step (cks l) [] c 0 0 1 false K = K (cks l) (logs (chLog l c 1)) c 1 (chP l c).num (chP l c).den false := step0_eq hd h2 hc K
theorem stepB (hd : DK l) (h2 : l.length = 2) {c : Nat} (hc : c ≤ 1) (K) : w_choose_step (cks l) (logs (chLog l c 1)) c 1 (chP l c).num (chP l c).den false K = K (cks l) (logs (chLog l c 2)) c 2 (chP l c).num (chP l c).den (chLeft l c 2) := step1_eq hd h2 hc K
def chkE (l : List Ck) (lg : List Qy) (cutter step an ad : Int) (left : Bool) : Int :=
 if deskE l lg.length = 0 then (if cakE l cutter = 0 then (if 0 ≤ step ∧ step ≤ 2 ∧ lg = chLog l cutter.toNat step.toNat ∧ an = (chAt l cutter.toNat step.toNat).num ∧ ad = (chAt l cutter.toNat step.toNat).den ∧ left = chLeft l cutter.toNat step.toNat then 0 else 8) else cakE l cutter) else deskE l lg.length
theorem chLog_len (l : List Ck) (c k : Nat) : (chLog l c k).length ≤ 2 := by
 match k with
 | 0 => exact Nat.zero_le _
 | 1 => exact Nat.le_succ _
 | k + 2 => exact Nat.le_refl _
theorem chk_end {c k : Nat} {lg : List Qy} (hlg : lg.length < 4611686018427387904) {step an ad : Int} {left : Bool} (hk : k ≤ 2) (K : Int → Prop)
   (hmin : (k : Int) = step ∨ ¬ (0 ≤ step ∧ step ≤ 2)) :
   cbr ((k : Int) != step) (K 8) (cbr (!(((chAt l c k).num == an) && ((((chAt l c k).den : Nat) : Int) == ad && true))) (K 8) (cbr (chLeft l c k != left) (K 8) (w_s_Equal_api_Query_api_Query (logs (chLog l c k)) (logs lg) (fun yb38 => (cbr (!yb38) (K 8) (K 0)))))) =
   K (if 0 ≤ step ∧ step ≤ 2 ∧ lg = chLog l c step.toNat ∧ an = (chAt l c step.toNat).num ∧ ad = (chAt l c step.toNat).den ∧ left = chLeft l c step.toNat then 0 else 8) := by
 have hcl := chLog_len l c k
 by_cases e : (k : Int) = step
 · subst e
   rw [cnF rfl, Int.toNat_natCast, qEqual_eq (by omega) hlg]
   by_cases e1 : (chAt l c k).num = an
   · by_cases e2 : ((chAt l c k).den : Int) = ad
     · rw [beq_t e1, beq_t e2]
       show cbr (!(true && (true && true))) _ _ = _
       simp only [Bool.and_self, Bool.not_true, cbr_false]
       by_cases e3 : chLeft l c k = left
       · have b3 : (chLeft l c k != left) = false := by simp [e3]
         rw [b3, cbr_false]
         by_cases e4 : chLog l c k = lg
         · rw [decide_eq_true e4, Bool.not_true, cbr_false, if_pos ⟨by omega, by omega, e4.symm, e1.symm, e2.symm, e3.symm⟩]
         · rw [decide_eq_false e4, Bool.not_false, cbr_true, if_neg (fun x => e4 x.2.2.1.symm)]
       · have b3 : (chLeft l c k != left) = true := by simpa using e3
         rw [b3, cbr_true, if_neg (fun x => e3 x.2.2.2.2.2.symm)]
     · rw [beq_f e2, Bool.false_and, Bool.and_false, Bool.not_false, cbr_true, if_neg (fun x => e2 x.2.2.2.2.1.symm)]
   · rw [beq_f e1, Bool.false_and, Bool.not_false, cbr_true, if_neg (fun x => e1 x.2.2.2.1.symm)]
 · rw [cnT e, if_neg (fun x => (hmin.resolve_left e) ⟨x.1, x.2.1⟩)]
theorem Check_eq' (hf : finC l) (hl : l.length < 4611686018427387904) {lg : List Qy} (hlg : lg.length < 4611686018427387904) (cutter step an ad : Int) (left : Bool) (K : Int → Prop) :
   w_choose_Check (cks l) (logs lg) cutter step an ad left K = K (chkE l lg cutter step an ad left) := by
 refine det_choose_Check _ _ _ _ _ _ _ _ (fun K kk => ?_) K
 unfold w_choose_Check wv_choose_Check
 unfold chkE at kk
 rw [aCheck_eq hf hl, logs_len]
 by_cases h : deskE l lg.length = 0
 case neg => rw [cnT h]; rw [if_neg h] at kk; exact kk
 rw [if_pos h] at kk
 rw [cnF h, Start_eq hf hl]
 by_cases hc0 : cakE l cutter = 0
 case neg => rw [if_neg hc0, cnT hc0]; rw [if_neg hc0] at kk; exact kk
 rw [if_pos hc0] at kk
 rw [if_pos hc0, cnF rfl]
 obtain ⟨hd, h2, c, hc, rfl⟩ := cakE_zero hc0
 rw [Int.toNat_natCast] at kk
 by_cases t0 : step ≤ 0
 · refine ⟨0 + 1, ?_⟩
   rw [L_choose_Check_0_0, cbF (by split <;> omega)]
   refine (chk_end (l := l) (c := c) (k := 0) hlg (by omega) K (by omega)).mpr kk
 by_cases t1 : step = 1
 · subst t1
   refine ⟨(0 + 1) + 1, ?_⟩
   rw [L_choose_Check_0_0, cbT (by decide), stepA hd h2 hc, L_choose_Check_0_1, cbF (by decide)]
   exact (chk_end (l := l) (c := c) (k := 1) hlg (by omega) K (by omega)).mpr kk
 · refine ⟨((0 + 1) + 1) + 1, ?_⟩
   rw [L_choose_Check_0_0, cbT (by split <;> omega), stepA hd h2 hc, L_choose_Check_0_1, cbT (by split <;> omega), stepB hd h2 hc, L_choose_Check_0_1, cbF (by split <;> omega)]
   exact (chk_end (l := l) (c := c) (k := 2) hlg (by omega) K (by omega)).mpr kk
theorem rCheck_eq' (hf : finC l) (hl : l.length < 4611686018427387904) {lg : List Qy} (hlg : lg.length < 4611686018427387904) (cutter step an ad : Int) (left : Bool) (K : Int → Prop) :
   w_r07_Check (cks l) (logs lg) cutter step an ad left K = K (chkE l lg cutter step an ad left) := by
 unfold w_r07_Check wv_r07_Check chkE
 rw [fCheck_eq hf hl, logs_len]
 by_cases h : deskE l lg.length = 0
 case neg => rw [cnT h, if_neg h]
 rw [cnF h, if_pos h, rCakes_eq hf hl]
 by_cases hc0 : cakE l cutter = 0
 case neg => rw [cnT hc0, if_neg hc0]
 rw [cnF hc0, if_pos hc0]
 obtain ⟨hd, h2, c, hc, rfl⟩ := cakE_zero hc0
 by_cases s0 : step < 0
 · rw [cbT s0, if_neg (fun x => by omega)]
 rw [cbF s0]
 by_cases s2 : step > 2
 · rw [cbT s2, if_neg (fun x => by omega)]
 rw [cbF s2]
 obtain ⟨k, rfl⟩ : ∃ k : Nat, step = k := ⟨step.toNat, by omega⟩
 have hcl := chLog_len l c k
 rw [rstate_eq hd h2 hc (by omega), Int.toNat_natCast, Int.toNat_natCast]
 unfold stK w_r07_Same wv_r07_Same
 dsimp only
 rw [fSame_eq hf hl hlg (by omega)]
 by_cases e4 : lg = chLog l c k
 case neg => rw [decide_eq_false e4, cbr_false, Bool.not_false, cbr_true, if_neg (fun x => e4 x.2.2.1)]
 rw [decide_eq_true e4, cbr_true, ceT rfl, ceT rfl]
 by_cases e1 : an = (chAt l c k).num
 · by_cases e2 : ad = ((chAt l c k).den : Int)
   · rw [beq_t e1, beq_t e2]
     show cbr true _ _ = _
     rw [cbr_true]
     by_cases e3 : left = chLeft l c k
     · have b3 : (left == chLeft l c k) = true := by simp [e3]
       rw [b3, Bool.not_true, cbr_false, if_pos ⟨by omega, by omega, e4, e1, e2, e3⟩]
     · have b3 : (left == chLeft l c k) = false := by simpa using e3
       rw [b3, Bool.not_false, cbr_true, if_neg (fun x => e3 x.2.2.2.2.2)]
   · rw [beq_f e2, Bool.false_and, Bool.and_false, cbr_false, Bool.not_false, cbr_true, if_neg (fun x => e2 x.2.2.2.2.1)]
 · rw [beq_f e1, Bool.false_and, cbr_false, Bool.not_false, cbr_true, if_neg (fun x => e1 x.2.2.2.1)]
def spL (l : List Ck) (c : Nat) : Sp := ⟨0, 1, (chP l c).num, (chP l c).den⟩
def spR (l : List Ck) (c : Nat) : Sp := ⟨(chP l c).num, (chP l c).den, (l.getD 0 default).len, 1⟩
def chDiv (l : List Ck) (c : Nat) : List (List Sp) := if chLeft l c 2 = decide (c = 1) then [[spL l c], [spR l c]] else [[spR l c], [spL l c]]
theorem divided_eq (h2 : l.length = 2) {c : Nat} (K) : w_r07_divided (cks l) (logs (chLog l c 2)) c 2 (chP l c).num (chP l c).den (chLeft l c 2) K = K (pieces (chDiv l c)) := by
 unfold w_r07_divided wv_r07_divided
 rw [sOf_eq, cks_len, cks_at (by omega), asT (by omega), asCk, ck0, sOf_eq]
 unfold chDiv
 have e : (((c : Int) == 1) : Bool) = decide (c = 1) := by
   by_cases h : c = 1
   · subst h; rfl
   · rw [decide_eq_false h, beq_f (by omega)]
 rw [e]
 by_cases h : chLeft l c 2 = decide (c = 1)
 · rw [if_pos h, h, beq_self_eq_true, cbr_true]; rfl
 · rw [if_neg h]
   have : (chLeft l c 2 == decide (c = 1)) = false := by simpa using h
   rw [this, cbr_false]; rfl
theorem prog_div (h2 : l.length = 2) {c : Nat} (hc : c ≤ 1) (hchk : chkE l (chLog l c 2) c 2 (chP l c).num (chP l c).den (chLeft l c 2) = 0) (hf : finC l) (K) : w_choose_Division (cks l) (logs (chLog l c 2)) c 2 (chP l c).num (chP l c).den (chLeft l c 2) K = K (pieces (chDiv l c)) 0 := by
 unfold w_choose_Division wv_choose_Division
 have hcl := chLog_len l c 2
 rw [Check_eq' hf (by omega) (by omega), hchk, cnF rfl, cbF (by decide)]
 unfold chDiv
 rw [cks_len, cks_at (by omega), h2]
 rcases (show c = 0 ∨ c = 1 by omega) with rfl | rfl
 · cases chLeft l 0 2 <;> rfl
 · cases chLeft l 1 2 <;> rfl
end
end Go.Pf.Vc
namespace Go.Pf.Vc
open Go Go.Pf
section
variable {l : List Ck}
theorem chkE_zero {lg : List Qy} {cutter step an ad : Int} {left : Bool} (h : chkE l lg cutter step an ad left = 0) :
   DK l ∧ l.length = 2 ∧ ∃ c k : Nat, c ≤ 1 ∧ k ≤ 2 ∧ cutter = c ∧ step = k ∧ lg = chLog l c k ∧ an = (chAt l c k).num ∧ ad = (chAt l c k).den ∧ left = chLeft l c k := by
 unfold chkE at h
 split at h
 · split at h
   · rename_i h0 h1
     obtain ⟨hd, h2, c, hc, rfl⟩ := cakE_zero h1
     split at h
     · rename_i h3
       rw [Int.toNat_natCast] at h3
       exact ⟨hd, h2, c, step.toNat, hc, by omega, rfl, by omega, h3.2.2.1, h3.2.2.2.1, h3.2.2.2.2.1, h3.2.2.2.2.2⟩
     · omega
   · rename_i h0 h1; exact absurd h h1
 · rename_i h0; exact absurd h h0
def nextK (l : List Ck) (lg : List Qy) (cutter step an ad : Int) (left : Bool) (K : List PV → List PV → Int → Int → Int → Int → Bool → Int → Prop) : Prop :=
 if chkE l lg cutter step an ad left = 0 then (if step = 2 then K [] [] 0 0 0 0 false 36 else stK l cutter.toNat (step.toNat + 1) (fun a b x y z u w => K a b x y z u w 0)) else K [] [] 0 0 0 0 false (chkE l lg cutter step an ad left)
theorem Next_eq (hf : finC l) (hl : l.length < 4611686018427387904) {lg : List Qy} (hlg : lg.length < 4611686018427387904) (cutter step an ad : Int) (left : Bool) (K) :
   w_choose_Next (cks l) (logs lg) cutter step an ad left K = nextK l lg cutter step an ad left K := by
 unfold w_choose_Next wv_choose_Next nextK
 rw [Check_eq' hf hl hlg]
 by_cases h : chkE l lg cutter step an ad left = 0
 · rw [cnF h, if_pos h]
   obtain ⟨hd, h2, c, k, hc, hk, rfl, rfl, rfl, rfl, rfl, rfl⟩ := chkE_zero h
   rcases (show k = 0 ∨ k = 1 ∨ k = 2 by omega) with rfl | rfl | rfl
   · rw [ceF (by decide), if_neg (by decide), Int.toNat_natCast]
     exact stepA hd h2 hc _
   · rw [ceF (by decide), if_neg (by decide), Int.toNat_natCast]
     exact stepB hd h2 hc _
   · rw [ceT (show ((2 : Nat) : Int) = 2 from rfl), if_pos (show ((2 : Nat) : Int) = 2 from rfl)]
 · rw [cnT h, if_neg h]
theorem rNext_eq (hf : finC l) (hl : l.length < 4611686018427387904) {lg : List Qy} (hlg : lg.length < 4611686018427387904) (cutter step an ad : Int) (left : Bool) (K) :
   w_r07_Next (cks l) (logs lg) cutter step an ad left K = nextK l lg cutter step an ad left K := by
 unfold w_r07_Next wv_r07_Next nextK
 rw [rCheck_eq' hf hl hlg]
 by_cases h : chkE l lg cutter step an ad left = 0
 · rw [cnF h, if_pos h]
   obtain ⟨hd, h2, c, k, hc, hk, rfl, rfl, rfl, rfl, rfl, rfl⟩ := chkE_zero h
   by_cases h3 : (k : Int) = 2
   · rw [ceT h3, if_pos h3]
   · rw [ceF h3, if_neg h3, wib (by omega) (by omega), cast1, rstate_eq hd h2 hc (by omega)]; rfl
 · rw [cnT h, if_neg h, rCheck_eq' hf hl hlg]
def divK (l : List Ck) (lg : List Qy) (cutter step an ad : Int) (left : Bool) (K : List PV → Int → Prop) : Prop :=
 if chkE l lg cutter step an ad left = 0 then (if step = 2 then K (pieces (chDiv l cutter.toNat)) 0 else K [] 36) else K [] (chkE l lg cutter step an ad left)
theorem Division_eq (hf : finC l) (hl : l.length < 4611686018427387904) {lg : List Qy} (hlg : lg.length < 4611686018427387904) (cutter step an ad : Int) (left : Bool) (K) :
   w_choose_Division (cks l) (logs lg) cutter step an ad left K = divK l lg cutter step an ad left K := by
 unfold divK
 by_cases h : chkE l lg cutter step an ad left = 0
 · rw [if_pos h]
   obtain ⟨hd, h2, c, k, hc, hk, rfl, rfl, rfl, rfl, rfl, rfl⟩ := chkE_zero h
   by_cases h3 : (k : Int) = 2
   · obtain rfl : k = 2 := by omega
     rw [if_pos (show ((2 : Nat) : Int) = 2 from rfl), Int.toNat_natCast]
     exact prog_div h2 hc h hf K
   · rw [if_neg h3]
     unfold w_choose_Division wv_choose_Division
     rw [Check_eq' hf hl hlg, h, cnF rfl, cbT (by omega)]
 · rw [if_neg h]
   unfold w_choose_Division wv_choose_Division
   rw [Check_eq' hf hl hlg, cnT h]
theorem rDivision_eq (hf : finC l) (hl : l.length < 4611686018427387904) {lg : List Qy} (hlg : lg.length < 4611686018427387904) (cutter step an ad : Int) (left : Bool) (K) :
   w_r07_Division (cks l) (logs lg) cutter step an ad left K = divK l lg cutter step an ad left K := by
 unfold w_r07_Division wv_r07_Division divK
 rw [rCheck_eq' hf hl hlg]
 by_cases h : chkE l lg cutter step an ad left = 0
 · rw [cnF h, if_pos h]
   obtain ⟨hd, h2, c, k, hc, hk, rfl, rfl, rfl, rfl, rfl, rfl⟩ := chkE_zero h
   by_cases h3 : (k : Int) = 2
   · obtain rfl : k = 2 := by omega
     rw [cnF h3, if_pos h3, Int.toNat_natCast]
     exact divided_eq h2 _
   · rw [cnT h3, if_neg h3]
 · rw [cnT h, if_neg h, rCheck_eq' hf hl hlg]
theorem rSame_self (hf : finC l) (hl : l.length < 4611686018427387904) {lg : List Qy} (hlg : lg.length < 4611686018427387904) (a b c d : Int) (e : Bool) (K : Bool → Prop) :
   w_r07_Same (cks l) (logs lg) a b c d e (cks l) (logs lg) a b c d e K = K true := by
 unfold w_r07_Same wv_r07_Same
 rw [fSame_eq hf hl hlg hlg, decide_eq_true rfl, cbr_true, ceT rfl, ceT rfl]
 simp only [beq_self_eq_true, Bool.and_self, cbr_true]
theorem finC_nil : finC [] := fun i hi => absurd hi (Nat.not_lt_zero i)
theorem rSame_nil (a b c d : Int) (e : Bool) (K : Bool → Prop) : w_r07_Same [] [] a b c d e [] [] a b c d e K = K true := rSame_self (l := []) finC_nil (by decide) (lg := []) (by decide) a b c d e K
theorem gSame_nil (K : Bool → Prop) : w_r06_Same [] [] K = K true := gSame_self (l := []) (fun i hi => absurd hi (Nat.not_lt_zero i)) (by decide) K
theorem chDiv_small (l : List Ck) (c : Nat) : (chDiv l c).length = 2 ∧ ∀ i, i < (chDiv l c).length → ((chDiv l c).getD i []).length < 4611686018427387904 := by
 unfold chDiv
 split <;> refine ⟨rfl, fun i hi => ?_⟩ <;> (have hi : i < 2 := hi) <;> rcases (show i = 0 ∨ i = 1 by omega) with rfl | rfl <;> exact (by decide : (1 : Nat) < 4611686018427387904)
theorem chDiv_same (l : List Ck) (c : Nat) (K : Bool → Prop) : w_r06_Same (pieces (chDiv l c)) (pieces (chDiv l c)) K = K true := by
 obtain ⟨h1, h2⟩ := chDiv_small l c
 exact gSame_self h2 (by omega) K
end
end Go.Pf.Vc
namespace Go.Pf.Vc
open Go Go.Pf
section
variable {l : List Ck}
theorem Great_eq (hl : l.length ≤ 9223372036854775807) (lg : List PV) (K : Bool → Prop) : w_r04_Great (cks l) lg K = K (greatC l || (decide (lg.length > 40 ∧ lg.length < 1999) || decide (lg.length > 2010))) := by
 unfold w_r04_Great wv_r04_Great
 rw [GreatCakes_eq hl]
 cases hg : greatC l with
 | true => rw [cbr_true]; rfl
 | false =>
   rw [cbr_false, Bool.false_or]
   have e : decide ((lg.length : Int) > 2010) = decide (lg.length > 2010) := by rw [decide_eq_decide]; omega
   by_cases h : lg.length > 40
   · rw [cbT (by omega)]
     by_cases h2 : lg.length < 1999
     · rw [cbT (by omega), decide_eq_true ⟨h, h2⟩]; rfl
     · rw [cbF (by omega), decide_eq_false (show ¬ (lg.length > 40 ∧ lg.length < 1999) from fun x => h2 x.2), Bool.false_or, e]
   · rw [cbF (by omega), decide_eq_false (show ¬ (lg.length > 40 ∧ lg.length < 1999) from fun x => h x.1), Bool.false_or, e]
theorem ChooseSteps_ok (hl : l.length ≤ 9223372036854775807) (lg : List Qy) (cutter step an ad : Int) (left : Bool) : w_l07_ChooseSteps (cks l) (logs lg) cutter step an ad left (fun b => b = true) := by
 unfold w_l07_ChooseSteps wv_l07_ChooseSteps
 rw [Great_eq hl]
 cases hg : (greatC l || (decide ((logs lg).length > 40 ∧ (logs lg).length < 1999) || decide ((logs lg).length > 2010))) with
 | true => rw [cbr_true]
 | false =>
   simp only [Bool.or_eq_false_iff, decide_eq_false_iff_not] at hg
   obtain ⟨hg, _, hlg⟩ := hg
   rw [logs_len] at hlg
   obtain ⟨g1, g2, g3⟩ := greatC_low hg
   have hlg' : lg.length < 4611686018427387904 := by omega
   have core : ∀ X Y : Prop, w_choose_Next (cks l) (logs lg) cutter step an ad left (fun yl2 yl3 yi4 yi5 yi6 yi7 yb8 yi9 => w_r07_Next (cks l) (logs lg) cutter step an ad left (fun yl10 yl11 yi12 yi13 yi14 yi15 yb16 yi17 =>
       w_choose_Division (cks l) (logs lg) cutter step an ad left (fun yl18 yi19 => w_r07_Division (cks l) (logs lg) cutter step an ad left (fun yl20 yi21 =>
       w_choose_Check (cks l) (logs lg) cutter step an ad left (fun yi22 => w_r07_Check (cks l) (logs lg) cutter step an ad left (fun yi23 =>
       (cbr (yi22 == yi23) (w_r07_Same yl2 yl3 yi4 yi5 yi6 yi7 yb8 yl10 yl11 yi12 yi13 yi14 yi15 yb16 (fun yb24 =>
         (cbr yb24 (cbr (yi9 == yi17) (w_r06_Same yl18 yl20 (fun yb25 => (cbr yb25 (cbr (yi19 == yi21) X Y) Y))) Y) Y))) Y))))))) = X := by
     intro X Y
     rw [Next_eq g3 (by omega) hlg']
     unfold nextK
     dsimp only
     by_cases h : chkE l lg cutter step an ad left = 0
     · rw [if_pos h]
       obtain ⟨hd, h2, c, k, hc, hk, rfl, rfl, rfl, rfl, rfl, rfl⟩ := chkE_zero h
       have ll := chLog_len l c (k + 1)
       by_cases h3 : (k : Int) = 2
       · rw [if_pos h3, rNext_eq g3 (by omega) hlg']
         unfold nextK
         dsimp only
         rw [if_pos h, if_pos h3, Division_eq g3 (by omega) hlg']
         unfold divK
         dsimp only
         rw [if_pos h, if_pos h3, rDivision_eq g3 (by omega) hlg']
         unfold divK
         dsimp only
         rw [if_pos h, if_pos h3, Check_eq' g3 (by omega) hlg', rCheck_eq' g3 (by omega) hlg', ceT rfl, rSame_nil, cbr_true, ceT rfl, chDiv_same, cbr_true, ceT rfl]
       · rw [if_neg h3]
         unfold stK
         dsimp only
         rw [rNext_eq g3 (by omega) hlg']
         unfold nextK
         dsimp only
         rw [if_pos h, if_neg h3]
         unfold stK
         dsimp only
         rw [Division_eq g3 (by omega) hlg']
         unfold divK
         dsimp only
         rw [if_pos h, if_neg h3, rDivision_eq g3 (by omega) hlg']
         unfold divK
         dsimp only
         rw [if_pos h, if_neg h3, Check_eq' g3 (by omega) hlg', rCheck_eq' g3 (by omega) hlg', ceT rfl]
         rw [rSame_self g3 (by omega) (by rw [Int.toNat_natCast, Int.toNat_natCast]; omega), cbr_true, ceT rfl, gSame_nil, cbr_true, ceT rfl]
     · rw [if_neg h, rNext_eq g3 (by omega) hlg']
       unfold nextK
       dsimp only
       rw [if_neg h, Division_eq g3 (by omega) hlg']
       unfold divK
       dsimp only
       rw [if_neg h, rDivision_eq g3 (by omega) hlg']
       unfold divK
       dsimp only
       rw [if_neg h, Check_eq' g3 (by omega) hlg', rCheck_eq' g3 (by omega) hlg', ceT rfl, rSame_nil, cbr_true, ceT rfl, gSame_nil, cbr_true, ceT rfl]
   rw [cbr_false, Twins_eq g2 (by omega), logs_head, asr_true]
   have fs := fSame_eq g3 (by omega) hlg' hlg' (fun b => b = true)
   rw [decide_eq_true rfl] at fs
   cases he : List.isEmpty (logs lg) with
   | true =>
     have e0 : logs lg = [] := List.isEmpty_iff.1 he
     rw [cbr_true]
     refine (core _ _).mpr ?_
     have fs2 := fs
     rw [e0] at fs2 ⊢
     exact fs2.mpr rfl
   | false =>
     rw [cbr_false, asT (by rw [logs_len]; unfold room; omega)]
     refine (core _ _).mpr ?_
     rw [asT rfl, asT (by omega), take_all']
     exact fs.mpr rfl
end
end Go.Pf.Vc
namespace Go.Pf.Vc
open Go Go.Pf
def dsR : DS := .a [.i .i64, .i .i64]
def dsC : DS := .a [.i .i64, .s (.i .i64), .s (.i .i64)]
def dsQ : DS := .a [.i .i64, .i .u8, dsR, dsR, dsR]
def dsD : DS := .a [.s dsC, .s dsQ]
theorem inK_i64 {n : Int} (h : inK .i64 n) : I64 n := by
 have e1 : IntKind.i64.min = -9223372036854775808 := by decide
 have e2 : IntKind.i64.max = 9223372036854775807 := by decide
 unfold inK at h
 rw [e1, e2] at h
 exact h
theorem F_i {c : List PV} (h : HasF (.i .i64) c) : ∃ n, c = [.int .i64 n] ∧ I64 n := by
 simp only [HasF] at h
 obtain ⟨n, e, k⟩ := h
 exact ⟨n, e, inK_i64 k⟩
theorem F_r {c : List PV} (h : HasF dsR c) : ∃ n d, c = [.int .i64 n, .int .i64 d] ∧ I64 n ∧ I64 d := by
 simp only [dsR, HasF, HasL] at h
 obtain ⟨c1, c2, rfl, ⟨n, rfl, hn⟩, c3, c4, rfl, ⟨d, rfl, hd⟩, rfl⟩ := h
 exact ⟨n, d, rfl, inK_i64 hn, inK_i64 hd⟩
theorem ints_of : ∀ (rows : List PV), (∀ x ∈ rows, x.isAgg = (DS.i .i64).isA ∧ HasF (.i .i64) x.cells) → ∃ l : List Int, rows = ints l ∧ ∀ n ∈ l, I64 n
 | [], _ => ⟨[], rfl, by simp⟩
 | x :: r, h => by
   obtain ⟨l, e, hl⟩ := ints_of r (fun y hy => h y (List.mem_cons_of_mem _ hy))
   obtain ⟨h1, h2⟩ := h x (List.mem_cons_self ..)
   obtain ⟨n, e2, hn⟩ := F_i h2
   have ex : x = .int .i64 n := by
     cases x <;> first | (simp only [PV.cells, List.cons.injEq, and_true] at e2; exact e2) | (cases h1)
   refine ⟨n :: l, by rw [ex, e]; rfl, ?_⟩
   intro m hm
   rcases List.mem_cons.1 hm with rfl | hm
   · exact hn
   · exact hl m hm
def Ck.i64 (c : Ck) : Prop := I64 c.len ∧ (∀ n ∈ c.cuts, I64 n) ∧ ∀ n ∈ c.dens, I64 n
theorem F_c {c : List PV} (h : HasF dsC c) : ∃ k : Ck, c = [.int .i64 k.len, .data (ints k.cuts), .data (ints k.dens)] ∧ k.i64 ∧ k.cuts.length ≤ 9223372036854775807 ∧ k.dens.length ≤ 9223372036854775807 := by
 simp only [dsC, HasF, HasL] at h
 obtain ⟨c1, c2, rfl, ⟨n, rfl, hn⟩, c3, c4, rfl, ⟨r1, rfl, l1, h1⟩, c5, c6, rfl, ⟨r2, rfl, l2, h2⟩, rfl⟩ := h
 obtain ⟨a, rfl, ha⟩ := ints_of r1 (fun x hx => ⟨(h1 x hx).1, by simp only [HasF]; exact (h1 x hx).2⟩)
 obtain ⟨b, rfl, hb⟩ := ints_of r2 (fun x hx => ⟨(h2 x hx).1, by simp only [HasF]; exact (h2 x hx).2⟩)
 rw [ints_len] at l1 l2
 exact ⟨⟨n, a, b⟩, rfl, ⟨inK_i64 hn, ha, hb⟩, l1, l2⟩
theorem agg_of {x : PV} {l : List DS} (h : x.isAgg = (DS.a l).isA) : x = .agg x.cells := by
 cases x <;> first | rfl | cases h
theorem cks_of : ∀ (rows : List PV), (∀ x ∈ rows, x.isAgg = dsC.isA ∧ HasF dsC x.cells) → ∃ l : List Ck, rows = cks l ∧ ∀ c ∈ l, c.i64
 | [], _ => ⟨[], rfl, by simp⟩
 | x :: r, h => by
   obtain ⟨l, e, hl⟩ := cks_of r (fun y hy => h y (List.mem_cons_of_mem _ hy))
   obtain ⟨h1, h2⟩ := h x (List.mem_cons_self ..)
   obtain ⟨k, e2, hk, _⟩ := F_c h2
   have ex : x = encC k := by rw [agg_of h1, e2]; rfl
   refine ⟨k :: l, by rw [ex, e]; rfl, ?_⟩
   intro m hm
   rcases List.mem_cons.1 hm with rfl | hm
   · exact hk
   · exact hl m hm
theorem F_q {c : List PV} (h : HasF dsQ c) : ∃ q : Qy, c = [.int .i64 q.agent, .int .u8 q.kind, .int .i64 q.an, .int .i64 q.ad, .int .i64 q.bn, .int .i64 q.bd, .int .i64 q.cn, .int .i64 q.cd] := by
 simp only [dsQ, dsR, HasF, HasL] at h
 obtain ⟨_, _, rfl, ⟨a, rfl, _⟩, _, _, rfl, ⟨b, rfl, _⟩, _, _, rfl, ⟨_, _, rfl, ⟨c, rfl, _⟩, _, _, rfl, ⟨d, rfl, _⟩, rfl⟩, _, _, rfl, ⟨_, _, rfl, ⟨e, rfl, _⟩, _, _, rfl, ⟨f, rfl, _⟩, rfl⟩, _, _, rfl, ⟨_, _, rfl, ⟨g, rfl, _⟩, _, _, rfl, ⟨i, rfl, _⟩, rfl⟩, rfl⟩ := h
 exact ⟨⟨a, b, c, d, e, f, g, i⟩, rfl⟩
theorem logs_of : ∀ (rows : List PV), (∀ x ∈ rows, x.isAgg = dsQ.isA ∧ HasF dsQ x.cells) → ∃ l : List Qy, rows = logs l
 | [], _ => ⟨[], rfl⟩
 | x :: r, h => by
   obtain ⟨l, e⟩ := logs_of r (fun y hy => h y (List.mem_cons_of_mem _ hy))
   obtain ⟨h1, h2⟩ := h x (List.mem_cons_self ..)
   obtain ⟨k, e2⟩ := F_q h2
   have ex : x = encQ k := by rw [agg_of h1, e2]; rfl
   exact ⟨k :: l, by rw [ex, e]; rfl⟩
theorem F_cks {c : List PV} (h : HasF (.s dsC) c) : ∃ l : List Ck, c = [.data (cks l)] ∧ l.length ≤ 9223372036854775807 ∧ ∀ k ∈ l, k.i64 := by
 simp only [HasF] at h
 obtain ⟨rows, rfl, hl, hr⟩ := h
 obtain ⟨l, rfl, hi⟩ := cks_of rows hr
 rw [cks_len] at hl
 exact ⟨l, rfl, hl, hi⟩
theorem F_logs {c : List PV} (h : HasF (.s dsQ) c) : ∃ l : List Qy, c = [.data (logs l)] ∧ l.length ≤ 9223372036854775807 := by
 simp only [HasF] at h
 obtain ⟨rows, rfl, hl, hr⟩ := h
 obtain ⟨l, rfl⟩ := logs_of rows hr
 rw [logs_len] at hl
 exact ⟨l, rfl, hl⟩
def dsChoice : DS := .a [dsD, .i .i64, .i .i64, dsR, .b]
theorem A_choice {as : List PV} (h : HasAs [dsChoice] as) : ∃ (l : List Ck) (lg : List Qy) (c s a d : Int) (b : Bool), as = [.agg [.data (cks l), .data (logs lg), .int .i64 c, .int .i64 s, .int .i64 a, .int .i64 d, .bool b]] ∧ l.length ≤ 9223372036854775807 := by
 simp only [HasAs] at h
 obtain ⟨x, r, rfl, x1, x2, rfl⟩ := h
 rw [agg_of x1]
 generalize x.cells = cs at x2
 simp only [dsChoice, HasF, HasL] at x2
 obtain ⟨c1, _, rfl, h1, c2, _, rfl, ⟨c, rfl, _⟩, c3, _, rfl, ⟨s, rfl, _⟩, c4, _, rfl, h4, c5, _, rfl, ⟨b, rfl⟩, rfl⟩ := x2
 obtain ⟨a, d, rfl, _⟩ := F_r h4
 simp only [dsD, HasF, HasL] at h1
 obtain ⟨k1, _, rfl, g1, k2, _, rfl, g2, rfl⟩ := h1
 obtain ⟨l, rfl, hl, _⟩ := F_cks (by simp only [HasF]; exact g1)
 obtain ⟨lg, rfl, _⟩ := F_logs (by simp only [HasF]; exact g2)
 exact ⟨l, lg, c, s, a, d, b, rfl, hl⟩
end Go.Pf.Vc
