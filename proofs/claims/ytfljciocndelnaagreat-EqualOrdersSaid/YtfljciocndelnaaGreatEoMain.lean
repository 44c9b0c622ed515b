/- Part 7. -/
import Derived.Test.YtfljciocndelnaaGreatEoJoin
namespace Go.Proofs.YtfljciocndelnaaGreat.Eo
open Go Go.Pf Go.Pf.Vc Go.ChangeShapes Go.WideShapes Go.ChangeAt Go.RowKit
set_option maxRecDepth 100000
theorem yDN (xs:List PV) (h:ypr [.s BE,.s (.i .i64)] xs):qJ Tryz.prog (E []).glob 4 xs (.bool true):=by
 obtain ⟨l,xs,rfl,hl,hx⟩:=yIk h;obtain ⟨r,hr,ha⟩:=(yoS [] iE) [.data (cks l),.data (aB xs)] (fun r=>r=.bool true) (show Mz (cks l) (aB xs) (fun r=>PV.bool r=.bool true) by
  have h2:=yuV hl hx;simpa using h2)
 subst hr;exact kb kN hm (by kernel_rfl) (by kernel_rfl) ha
theorem rows:∀ t∈Tryz.f4.params.toList,t<Tryz.prog.types.size:=fun t ht=>
 of_decide_eq_true (Ay.1 (show (Tryz.f4.params.toList.all fun t=>decide (t<Tryz.prog.types.size))=true by kernel_rfl) t ht)
theorem own:ownKnob Tryz.prog.godebug=none:=by kernel_rfl
theorem VX:Kids Tryz.prog (·<Tryz.prog.types.size):=kids_rows (by kernel_rfl) (by kernel_rfl)
theorem VY:∀ t e,t<Tryz.prog.types.size→Tryz.prog.underlying t=some (.slice e)→0<Tryz.prog.cellsOf e:=slices_full_of Tryz.prog (by kernel_rfl)
theorem yMU (os:Os) (started:os.Started) (H:Type) (enc:TypeId×Value→H) :
  ReturnsInHanded {} Tryz.checked os 4 .any (Rows.equalOrdersSpec.pre6 enc Tryz.prog Tryz.f4 Rows.equalOrdersRow.domain false) (Rows.equalOrdersSpec.post enc Tryz.prog Tryz.f4 false true false false):=by
 refine returnsInHanded_of_change (C:=Tryz.checked) own started (by kernel_rfl) Tryz.func4
  (ChangeSpec.witness6 (enc:=enc) (C:=Tryz.checked) false ⟨#[],#[.slice none 0 0,.slice none 0 0],[]⟩ 8 (by kernel_rfl) (by kernel_rfl) (by kernel_rfl) (by kernel_rfl)) ?_
 intro W base args ds gs before hval hW _ _;exact kw VX VY (dss:=[.s BE,.s (.i .i64)]) (bt:=4) (by kernel_rfl) rows Tryz.func4 (by kernel_rfl) (by kernel_rfl) rfl (fun ds h=>by match ds,h with | [d,d2],_=>rfl) (by kernel_rfl) Tryz.underlying4
  yDN hval hW (fun _=>False) (fun _ h=>h.elim) (fun n x h=>by have h:(none:Option PV)=some x:=h;cases h)
theorem yEX:Rows.EqualOrdersSaid:=
 OpenClaim.holds_of_wide 4 Tryz.f4 rfl rfl rfl rfl rfl rfl rfl ⟨rfl,rfl,rfl,rfl,rfl⟩ rfl rfl rfl rfl rfl (by kernel_rfl) Tryz.func4 (by kernel_rfl)
  (of_decide_eq_true (by kernel_rfl)) (by unfold Func.isWrapper;first | (rw [if_pos (by decide +kernel)];kernel_rfl) | (rw [if_neg (by decide +kernel)];exact ⟨rfl,rfl⟩))
  (fun os started H enc _=>yMU os started H enc)
theorem proved:Rows.EqualOrdersSaid:=yEX
#print axioms proved
end Go.Proofs.YtfljciocndelnaaGreat.Eo
