/- Part 7. -/
import Derived.Test.YtfljciocndelnaaGreatEgJoin
namespace Go.Proofs.YtfljciocndelnaaGreat.Eg
open Go Go.Pf Go.Pf.Vc Go.ChangeShapes Go.WideShapes Go.ChangeAt Go.RowKit
set_option maxRecDepth 100000
theorem yB7 (xs:List PV) (h:yoM [.s Ad,.s (.i .i64),Hx] xs):oO Tryz.prog (E []).glob 3 xs (.bool true):=by
 obtain ⟨l,xs,a,b,rfl,hl,hx,ha,hb⟩:=yx h;obtain ⟨r,hr,ha⟩:=(qe [] gK) [.data (cks l),.data (aA xs),.agg [.int .i64 a,.int .i64 b]] (fun r=>r=.bool true) (show Kl (cks l) (aA xs) a b (fun r=>PV.bool r=.bool true) by
  have h2:=yw hl hx ha hb;simpa using h2)
 subst hr;exact T4 kN hm (by kernel_rfl) (by kernel_rfl) ha
theorem rows:∀ t∈Tryz.f3.params.toList,t<Tryz.prog.types.size:=fun t ht=>
 of_decide_eq_true (Ak.1 (show (Tryz.f3.params.toList.all fun t=>decide (t<Tryz.prog.types.size))=true by kernel_rfl) t ht)
theorem own:ownKnob Tryz.prog.godebug=none:=by kernel_rfl
theorem Sy:Kids Tryz.prog (·<Tryz.prog.types.size):=kids_rows (by kernel_rfl) (by kernel_rfl)
theorem Sz:∀ t e,t<Tryz.prog.types.size→Tryz.prog.underlying t=some (.slice e)→0<Tryz.prog.cellsOf e:=slices_full_of Tryz.prog (by kernel_rfl)
theorem yII (os:Os) (started:os.Started) (H:Type) (enc:TypeId×Value→H) :
  ReturnsInHanded {} Tryz.checked os 3 .any (Rows.equalGreatestSpec.pre6 enc Tryz.prog Tryz.f3 Rows.equalGreatestRow.domain false) (Rows.equalGreatestSpec.post enc Tryz.prog Tryz.f3 false true false false):=by
 refine returnsInHanded_of_change (C:=Tryz.checked) own started (by kernel_rfl) Tryz.func3
  (ChangeSpec.witness6 (enc:=enc) (C:=Tryz.checked) false ⟨#[],#[.slice none 0 0,.slice none 0 0,.agg #[.int .i64 0,.int .i64 0]],[]⟩ 8 (by kernel_rfl) (by kernel_rfl) (by kernel_rfl) (by kernel_rfl)) ?_
 intro W base args ds gs before hval hW _ _;exact V0 Sy Sz (dss:=[.s Ad,.s (.i .i64),Hx]) (bt:=4) (by kernel_rfl) rows Tryz.func3 (by kernel_rfl) (by kernel_rfl) rfl (fun ds h=>by match ds,h with | [d,d2,d3],_=>rfl) (by kernel_rfl) Tryz.underlying4
  yB7 hval hW (fun _=>False) (fun _ h=>h.elim) (fun n x h=>by have h:(none:Option PV)=some x:=h;cases h)
theorem yDi:Rows.EqualGreatestSaid:=
 OpenClaim.holds_of_wide 3 Tryz.f3 rfl rfl rfl rfl rfl rfl rfl ⟨rfl,rfl,rfl,rfl,rfl⟩ rfl rfl rfl rfl rfl (by kernel_rfl) Tryz.func3 (by kernel_rfl)
  (of_decide_eq_true (by kernel_rfl)) (by unfold Func.isWrapper;first | (rw [if_pos (by decide +kernel)];kernel_rfl) | (rw [if_neg (by decide +kernel)];exact ⟨rfl,rfl⟩))
  (fun os started H enc _=>yII os started H enc)
theorem proved:Rows.EqualGreatestSaid:=yDi
#print axioms proved
end Go.Proofs.YtfljciocndelnaaGreat.Eg
