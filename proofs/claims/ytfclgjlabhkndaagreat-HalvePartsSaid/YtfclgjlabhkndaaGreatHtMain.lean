/- Part 7. -/
import Derived.Test.YtfclgjlabhkndaaGreatHtJoin
namespace Go.Proofs.YtfclgjlabhkndaaGreat.Ht
open Go Go.Pf Go.Pf.Vc Go.ChangeShapes Go.WideShapes Go.ChangeAt Go.RowKit
set_option maxRecDepth 100000
theorem yE0 (xs:List PV) (h:yqY [dsD,.s (.i .i64),dsR,dsR] xs):ymc Tryz.prog (E []).glob 4 xs (.bool true):=by
 obtain ⟨l,lg,xs,a,b,c,d,rfl,hl,hx,ha,hb,hc,hd⟩:=yI7 h
 obtain ⟨r,hr,ha⟩:=(ysd [] ybm) [.agg [.data (cks l),.data (logs lg)],.data (ints xs),.agg [.int .i64 a,.int .i64 b],.agg [.int .i64 c,.int .i64 d]] (fun r=>r=.bool true) (show yeU (cks l) (logs lg) (ints xs) a b c d (fun r=>PV.bool r=.bool true) by
  have h2:=yyn hl lg xs hx ha hb hc hd
  simpa using h2)
 subst hr
 exact yHN kN hm (by kernel_rfl) (by kernel_rfl) ha.solo
theorem rows:∀ t∈Tryz.f4.params.toList,t<Tryz.prog.types.size:=fun t ht =>
 of_decide_eq_true (List.all_eq_true.1 (show (Tryz.f4.params.toList.all fun t=>decide (t<Tryz.prog.types.size))=true by kernel_rfl) t ht)
theorem own:ownKnob Tryz.prog.godebug=none:=by kernel_rfl
theorem kids:Kids Tryz.prog (·<Tryz.prog.types.size):=kids_rows (by kernel_rfl) (by kernel_rfl)
theorem full:∀ t e,t<Tryz.prog.types.size→Tryz.prog.underlying t=some (.slice e)→0<Tryz.prog.cellsOf e:=slices_full_of Tryz.prog (by kernel_rfl)
theorem yI8 (os:Os) (started:os.Started) (H:Type) (enc:TypeId×Value→H) :
  ReturnsInHanded {} Tryz.checked os 4 .any (Rows.halvePartsSpec.pre6 enc Tryz.prog Tryz.f4 Rows.halvePartsRow.domain false) (Rows.halvePartsSpec.post enc Tryz.prog Tryz.f4 false true false false):=by
 refine returnsInHanded_of_change (C:=Tryz.checked) own started (by kernel_rfl) Tryz.func4
  (ChangeSpec.witness6 (enc:=enc) (C:=Tryz.checked) false ⟨#[],#[.agg #[.slice none 0 0,.slice none 0 0],.slice none 0 0,.agg #[.int .i64 0,.int .i64 0],.agg #[.int .i64 0,.int .i64 0]],[]⟩ 8 (by kernel_rfl) (by kernel_rfl) (by kernel_rfl) (by kernel_rfl)) ?_
 intro W base args ds gs before hval hW _ _
 exact yGC kids full (dss:=[dsD,.s (.i .i64),dsR,dsR]) (bt:=4) (by kernel_rfl) rows Tryz.func4 (by kernel_rfl) (by kernel_rfl) rfl (fun ds h=>by match ds,h with | [d,d2,d3,d4],_=>rfl) (by kernel_rfl) Tryz.underlying4
  yE0 hval hW (fun _=>False) (fun _ h=>h.elim) (fun n x h=>by have h:(none:Option PV)=some x:=h;cases h)
theorem yFW:Rows.HalvePartsSaid :=
 OpenClaim.holds_of_wide 4 Tryz.f4 rfl rfl rfl rfl rfl rfl rfl ⟨rfl,rfl,rfl,rfl,rfl⟩ rfl rfl rfl rfl rfl (by kernel_rfl) Tryz.func4 (by kernel_rfl)
  (of_decide_eq_true (by kernel_rfl)) (by unfold Func.isWrapper;first | (rw [if_pos (by decide +kernel)];kernel_rfl) | (rw [if_neg (by decide +kernel)];exact ⟨rfl,rfl⟩))
  (fun os started H enc _=>yI8 os started H enc)
theorem proved:Rows.HalvePartsSaid:=yFW
#print axioms proved
end Go.Proofs.YtfclgjlabhkndaaGreat.Ht
