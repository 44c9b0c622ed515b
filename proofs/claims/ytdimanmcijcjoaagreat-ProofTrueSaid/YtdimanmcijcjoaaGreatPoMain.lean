/- Part 8. -/
import Derived.Test.YtdimanmcijcjoaaGreatPoJoin
namespace Go.Proofs.YtdimanmcijcjoaaGreat.Po
open Go Go.Pf Go.Pf.Vc Go.ChangeShapes Go.WideShapes Go.ChangeAt Go.RowKit Go.Shelf Go.Sort Go.Lib Go.Proofs
set_option maxRecDepth 100000
theorem yGF (xs:List PV) (h:yix [.s tI,oS,.i .u8,.i .i64,.i .i64,vU] xs):lD Tryz.prog (E aT).glob 3 xs (.bool true):=by obtain ⟨l,ps,cl,i,k,r0,r1,rfl,h1,h2,h3,h0⟩:=yMz h;exact yAe kS hm h1 h2 h3 h0
theorem rows:∀ t∈Tryz.f3.params.toList,t<Tryz.prog.types.size:=fun t ht=>
 of_decide_eq_true (tL.1 (show (Tryz.f3.params.toList.all fun t=>decide (t<Tryz.prog.types.size))=true by kernel_rfl) t ht)
theorem own:ownKnob Tryz.prog.godebug=none:=by kernel_rfl
theorem Sk:Kids Tryz.prog (·<Tryz.prog.types.size):=kids_rows (by kernel_rfl) (by kernel_rfl)
theorem Sl:∀ t e,t<Tryz.prog.types.size→Tryz.prog.underlying t=some (.slice e)→0<Tryz.prog.cellsOf e:=slices_full_of Tryz.prog (by kernel_rfl)
theorem yMA (os:Os) (started:os.Started) (H:Type) (enc:TypeId×Value→H) :
  ReturnsInHanded {} Tryz.checked os 3 .any (Rows.proofTrueSpec.pre6 enc Tryz.prog Tryz.f3 Rows.proofTrueRow.domain false) (Rows.proofTrueSpec.post enc Tryz.prog Tryz.f3 false true false false):=by
 refine returnsInHanded_of_change (C:=Tryz.checked) own started (by kernel_rfl) Tryz.func3
  (ChangeSpec.witness6 (enc:=enc) (C:=Tryz.checked) false ⟨#[],#[.slice none 0 0,.agg #[.slice none 0 0],.int .u8 0,.int .i64 0,.int .i64 0,.agg #[.int .i64 0,.int .i64 0]],[]⟩ 8 (by kernel_rfl) (by kernel_rfl) (by kernel_rfl) (by kernel_rfl)) ?_
 intro W base args ds gs before hval hW _ _;exact bz Sk Sl (dss:=[.s tI,oS,.i .u8,.i .i64,.i .i64,vU]) (bt:=4) (by kernel_rfl) rows Tryz.func3 (by kernel_rfl) (by kernel_rfl) rfl (fun ds h=>by match ds,h with | [d,d2,d3,d4,d5,d6],_=>rfl) (by kernel_rfl) Tryz.underlying4
  yGF hval hW (fun _=>False) (fun _ h=>h.elim) (fun n x h=>by have h:(none:Option PV)=some x:=h;cases h)
theorem yHF:Rows.ProofTrueSaid:=
 OpenClaim.holds_of_wide 3 Tryz.f3 rfl rfl rfl rfl rfl rfl rfl ⟨rfl,rfl,rfl,rfl,rfl⟩ rfl rfl rfl rfl rfl (by kernel_rfl) Tryz.func3 (by kernel_rfl)
  (of_decide_eq_true (by kernel_rfl)) (by unfold Func.isWrapper;first | (rw [if_pos (by decide +kernel)];kernel_rfl) | (rw [if_neg (by decide +kernel)];exact ⟨rfl,rfl⟩))
  (fun os started H enc _=>yMA os started H enc)
theorem proved:Rows.ProofTrueSaid:=yHF
#print axioms proved
end Go.Proofs.YtdimanmcijcjoaaGreat.Po
