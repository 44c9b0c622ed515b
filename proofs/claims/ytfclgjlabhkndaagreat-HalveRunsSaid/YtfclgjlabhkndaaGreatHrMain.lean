/- Part 7. -/
import Derived.Test.YtfclgjlabhkndaaGreatHrJoin
namespace Go.Proofs.YtfclgjlabhkndaaGreat.Hr
open Go Go.Pf Go.Pf.Vc Go.ChangeShapes Go.WideShapes Go.ChangeAt Go.RowKit
set_option maxRecDepth 100000
theorem yHI (xs:List PV) (h:ysF [.s dsC,.i .i64] xs):ynj Tryz.prog (E []).glob 3 xs (.bool true):=by
 obtain ⟨l,n,rfl,hl,_,_⟩:=yKN h
 obtain ⟨r,hr,ha⟩:=(yvz [] ya1) [.data (cks l),.int .i64 n] (fun r=>r=.bool true) (show yfE (cks l) n (fun r=>PV.bool r=.bool true) by
  have h2:=yDp hl n
  simpa using h2)
 subst hr
 exact yKx kN hm (by kernel_rfl) (by kernel_rfl) ha.solo
theorem rows:∀ t∈Tryz.f3.params.toList,t<Tryz.prog.types.size:=fun t ht =>
 of_decide_eq_true (List.all_eq_true.1 (show (Tryz.f3.params.toList.all fun t=>decide (t<Tryz.prog.types.size))=true by kernel_rfl) t ht)
theorem own:ownKnob Tryz.prog.godebug=none:=by kernel_rfl
theorem kids:Kids Tryz.prog (·<Tryz.prog.types.size):=kids_rows (by kernel_rfl) (by kernel_rfl)
theorem full:∀ t e,t<Tryz.prog.types.size→Tryz.prog.underlying t=some (.slice e)→0<Tryz.prog.cellsOf e:=slices_full_of Tryz.prog (by kernel_rfl)
theorem yL0 (os:Os) (started:os.Started) (H:Type) (enc:TypeId×Value→H) :
  ReturnsInHanded {} Tryz.checked os 3 .any (Rows.halveRunsSpec.pre6 enc Tryz.prog Tryz.f3 Rows.halveRunsRow.domain false) (Rows.halveRunsSpec.post enc Tryz.prog Tryz.f3 false true false false):=by
 refine returnsInHanded_of_change (C:=Tryz.checked) own started (by kernel_rfl) Tryz.func3
  (ChangeSpec.witness6 (enc:=enc) (C:=Tryz.checked) false ⟨#[],#[.slice none 0 0,.int .i64 0],[]⟩ 8 (by kernel_rfl) (by kernel_rfl) (by kernel_rfl) (by kernel_rfl)) ?_
 intro W base args ds gs before hval hW _ _
 exact yJg kids full (dss:=[.s dsC,.i .i64]) (bt:=4) (by kernel_rfl) rows Tryz.func3 (by kernel_rfl) (by kernel_rfl) rfl (fun ds h=>by match ds,h with | [d,d2],_=>rfl) (by kernel_rfl) Tryz.underlying4
  yHI hval hW (fun _=>False) (fun _ h=>h.elim) (fun n x h=>by have h:(none:Option PV)=some x:=h;cases h)
theorem yID:Rows.HalveRunsSaid :=
 OpenClaim.holds_of_wide 3 Tryz.f3 rfl rfl rfl rfl rfl rfl rfl ⟨rfl,rfl,rfl,rfl,rfl⟩ rfl rfl rfl rfl rfl (by kernel_rfl) Tryz.func3 (by kernel_rfl)
  (of_decide_eq_true (by kernel_rfl)) (by unfold Func.isWrapper;first | (rw [if_pos (by decide +kernel)];kernel_rfl) | (rw [if_neg (by decide +kernel)];exact ⟨rfl,rfl⟩))
  (fun os started H enc _=>yL0 os started H enc)
theorem proved:Rows.HalveRunsSaid:=yID
#print axioms proved
end Go.Proofs.YtfclgjlabhkndaaGreat.Hr
