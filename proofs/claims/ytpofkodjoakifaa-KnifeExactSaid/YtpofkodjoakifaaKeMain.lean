/- The statement, out of what its function answers. -/
import Derived.Test.YtpofkodjoakifaaKeJoin
namespace Go.Proofs.Ytpofkodjoakifaa.Ke
open Go Go.Pf Go.Pf.Vc Go.ChangeShapes Go.WideShapes Go.ChangeAt Go.RowKit
set_option maxRecDepth 100000
theorem answers (xs:List PV) (h:HasAs [dsC,dsC,dsR] xs):SumOk Try.prog (E []).glob 3 xs (.bool true):=by
  obtain ⟨a,b,pn,pd,rfl,h1,h2⟩:=yKD h
  obtain ⟨r,hr,ha⟩:=(ytx [] yaT) [.agg [.int .i64 a.len,.data (ints a.cuts),.data (ints a.dens)],.agg [.int .i64 b.len,.data (ints b.cuts),.data (ints b.dens)],.agg [.int .i64 pn,.int .i64 pd]] (fun r=>r=.bool true) (show yfV a.len (ints a.cuts) (ints a.dens) b.len (ints b.cuts) (ints b.dens) pn pd (fun r=>PV.bool r=.bool true) by
    have h2:=yzi (a:=a) (b:=b) h1 h2
    simpa using h2)
  subst hr
  exact yJg kN hm (by kernel_rfl) (by kernel_rfl) ha
theorem rows:∀ t∈Try.f3.params.toList,t<Try.prog.types.size:=fun t ht =>
  of_decide_eq_true (List.all_eq_true.1 (show (Try.f3.params.toList.all fun t=>decide (t<Try.prog.types.size))=true by kernel_rfl) t ht)
theorem own:ownKnob Try.prog.godebug=none:=by kernel_rfl
theorem kids:Kids Try.prog (·<Try.prog.types.size):=kids_rows (by kernel_rfl) (by kernel_rfl)
theorem full:∀ t e,t<Try.prog.types.size→Try.prog.underlying t=some (.slice e)→0<Try.prog.cellsOf e:=slices_full_of Try.prog (by kernel_rfl)
theorem lifted (os:Os) (started:os.Started) (H:Type) (enc:TypeId×Value→H) :
    ReturnsInHanded {} Try.checked os 3 .any (Rows.knifeExactSpec.pre6 enc Try.prog Try.f3 Rows.knifeExactRow.domain false) (Rows.knifeExactSpec.post enc Try.prog Try.f3 false true false false):=by
  refine returnsInHanded_of_change (C:=Try.checked) own started (by kernel_rfl) Try.func3
    (ChangeSpec.witness6 (enc:=enc) (C:=Try.checked) false ⟨#[],#[.agg #[.int .i64 0,.slice none 0 0,.slice none 0 0],.agg #[.int .i64 0,.slice none 0 0,.slice none 0 0],.agg #[.int .i64 0,.int .i64 0]],[]⟩ 8 (by kernel_rfl) (by kernel_rfl) (by kernel_rfl) (by kernel_rfl)) ?_
  intro W base args ds gs before hval hW _ _
  exact yHN kids full (dss:=[dsC,dsC,dsR]) (bt:=4) (by kernel_rfl) rows Try.func3 (by kernel_rfl) (by kernel_rfl) rfl (fun ds h=>by match ds,h with | [d,d2,d3],_=>rfl) (by kernel_rfl) Try.underlying4
    answers hval hW (fun _=>False) (fun _ h=>h.elim) (fun n x h=>by have h:(none:Option PV)=some x:=h;cases h)
theorem yHq:Rows.KnifeExactSaid :=
  OpenClaim.holds_of_wide 3 Try.f3 rfl rfl rfl rfl rfl rfl rfl ⟨rfl,rfl,rfl,rfl,rfl⟩ rfl rfl rfl rfl rfl (by kernel_rfl) Try.func3 (by kernel_rfl)
    (of_decide_eq_true (by kernel_rfl)) (by unfold Func.isWrapper;first | (rw [if_pos (by decide +kernel)];kernel_rfl) | (rw [if_neg (by decide +kernel)];exact ⟨rfl,rfl⟩))
    (fun os started H enc _=>lifted os started H enc)
theorem proved:Rows.KnifeExactSaid:=yHq
#print axioms proved
end Go.Proofs.Ytpofkodjoakifaa.Ke
