/- Part 9. -/
import Derived.Test.YtfljciocndelnaaGreatEfJoin
namespace Go.Proofs.YtfljciocndelnaaGreat.Ef
open Go Go.Pf Go.Pf.Vc Go.ChangeShapes Go.WideShapes Go.ChangeAt Go.RowKit Go.Shelf Go.Sort Go.Lib Go.Proofs
set_option maxRecDepth 100000
theorem yKE (xs:List PV) (h:yva [.s BL,.s (.i .i64)] xs):qM Tryz.prog (E cC).glob 5 xs (.bool true):=by
 obtain ⟨l,xs,rfl,hl,hx⟩:=yPr h;obtain ⟨r,hr,ha⟩:=yya [.data (cks l),.data (aA xs)] (fun r=>r=.bool true) (show Oa (cks l) (aA xs) (fun r=>PV.bool r=.bool true) by
  have h2:=yFZ hl hx;simpa using h2)
 subst hr;exact J6 kS hm (by kernel_rfl) (by kernel_rfl) ha
theorem rows:∀ t∈Tryz.f5.params.toList,t<Tryz.prog.types.size:=fun t ht=>
 of_decide_eq_true (sL.1 (show (Tryz.f5.params.toList.all fun t=>decide (t<Tryz.prog.types.size))=true by kernel_rfl) t ht)
theorem own:ownKnob Tryz.prog.godebug=none:=by kernel_rfl
theorem YR:Kids Tryz.prog (·<Tryz.prog.types.size):=kids_rows (by kernel_rfl) (by kernel_rfl)
theorem YS:∀ t e,t<Tryz.prog.types.size→Tryz.prog.underlying t=some (.slice e)→0<Tryz.prog.cellsOf e:=slices_full_of Tryz.prog (by kernel_rfl)
theorem yRF (os:Os) (started:os.Started) (H:Type) (enc:TypeId×Value→H) :
  ReturnsInHanded {} Tryz.checked os 5 .any (Rows.equalFairSpec.pre6 enc Tryz.prog Tryz.f5 Rows.equalFairRow.domain false) (Rows.equalFairSpec.post enc Tryz.prog Tryz.f5 false true false false):=by
 refine returnsInHanded_of_change (C:=Tryz.checked) own started (by kernel_rfl) Tryz.func5
  (ChangeSpec.witness6 (enc:=enc) (C:=Tryz.checked) false ⟨#[],#[.slice none 0 0,.slice none 0 0],[]⟩ 8 (by kernel_rfl) (by kernel_rfl) (by kernel_rfl) (by kernel_rfl)) ?_
 intro W base args ds gs before hval hW _ _;exact yMw YR YS (dss:=[.s BL,.s (.i .i64)]) (bt:=4) (by kernel_rfl) rows Tryz.func5 (by kernel_rfl) (by kernel_rfl) rfl (fun ds h=>by match ds,h with | [d,d2],_=>rfl) (by kernel_rfl) Tryz.underlying4
  yKE hval hW (fun _=>False) (fun _ h=>h.elim) (fun n x h=>by have h:(none:Option PV)=some x:=h;cases h)
theorem yLL:Rows.EqualFairSaid:=
 OpenClaim.holds_of_wide 5 Tryz.f5 rfl rfl rfl rfl rfl rfl rfl ⟨rfl,rfl,rfl,rfl,rfl⟩ rfl rfl rfl rfl rfl (by kernel_rfl) Tryz.func5 (by kernel_rfl)
  (of_decide_eq_true (by kernel_rfl)) (by unfold Func.isWrapper;first | (rw [if_pos (by decide +kernel)];kernel_rfl) | (rw [if_neg (by decide +kernel)];exact ⟨rfl,rfl⟩))
  (fun os started H enc _=>yRF os started H enc)
theorem proved:Rows.EqualFairSaid:=yLL
#print axioms proved
end Go.Proofs.YtfljciocndelnaaGreat.Ef
