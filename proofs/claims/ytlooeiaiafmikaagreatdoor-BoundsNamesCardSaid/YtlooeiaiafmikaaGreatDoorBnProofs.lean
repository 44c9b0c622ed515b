/- The statement BoundsNames: whatever the memory and the schedule, the law's function, which has no argument, returns true. -/
import Derived.Test.YtlooeiaiafmikaaGreatDoorBnM
import Derived.Test.YtlooeiaiafmikaaGreatDoorBnC0
import Derived.Test.YtlooeiaiafmikaaGreatDoorBnC1
import Derived.Test.YtlooeiaiafmikaaGreatDoorBnC2
import Derived.Test.YtlooeiaiafmikaaGreatDoorBnC3
import Derived.Test.YtlooeiaiafmikaaGreatDoorBnC4
import Derived.Test.YtlooeiaiafmikaaGreatDoorBnC5
import Derived.Test.YtlooeiaiafmikaaGreatDoorBnC6
import Derived.Test.YtlooeiaiafmikaaGreatDoorCards
import Derived.Test.YtlooeiaiafmikaaGreatDoorTie
import Derived.WalkKit
import Derived.ProofKit
import Derived.OpenShut
import Derived.ReadAgain
import Derived.ChangeBears
import Derived.LaidMore
import Derived.Lay
import Derived.SevenTiedAt
import Derived.Stop.Joined
namespace Go.Proofs.YtlooeiaiafmikaaGreatDoor.Bn
open Go Go.Pf Go.ChangeShapes Go.WideShapes Go.ChangeAt Go.RowKit
set_option maxRecDepth 100000
theorem k1:EnvOk Tryz.prog E1:=yae k0 hm c0
theorem k2:EnvOk Tryz.prog E2:=yae k1 hm c1
theorem k3:EnvOk Tryz.prog E3:=yae k2 hm c2
theorem k4:EnvOk Tryz.prog E4:=yae k3 hm c3
theorem k5:EnvOk Tryz.prog E5:=yae k4 hm c4
theorem k6:EnvOk Tryz.prog E6:=yae k5 hm c5
theorem k7:EnvOk Tryz.prog E7:=yae k6 hm c6
theorem k8:EnvOk Tryz.prog E8:=yae k7 hm c7
theorem k9:EnvOk Tryz.prog E9:=yae k8 hm c8
theorem k10:EnvOk Tryz.prog E10:=yae k9 hm c9
theorem k11:EnvOk Tryz.prog E11:=yae k10 hm c10
theorem k12:EnvOk Tryz.prog E12:=yae k11 hm c11
theorem k13:EnvOk Tryz.prog E13:=yae k12 hm c12
theorem k14:EnvOk Tryz.prog E14:=yae k13 hm c13
theorem k15:EnvOk Tryz.prog E15:=yae k14 hm c14
theorem k16:EnvOk Tryz.prog E16:=yae k15 hm c15
theorem k17:EnvOk Tryz.prog E17:=yae k16 hm c16
theorem k18:EnvOk Tryz.prog E18:=yae k17 hm c17
theorem k19:EnvOk Tryz.prog E19:=yae k18 hm c18
theorem k20:EnvOk Tryz.prog E20:=yae k19 hm c19
theorem k21:EnvOk Tryz.prog E21:=yae k20 hm c20
theorem k22:EnvOk Tryz.prog E22:=yae k21 hm c21
theorem k23:EnvOk Tryz.prog E23:=yae k22 hm c22
theorem k24:EnvOk Tryz.prog E24:=yae k23 hm c23
theorem k25:EnvOk Tryz.prog E25:=yae k24 hm c24
theorem k26:EnvOk Tryz.prog E26:=yae k25 hm c25
theorem k27:EnvOk Tryz.prog E27:=yae k26 hm c26
theorem k28:EnvOk Tryz.prog E28:=yae k27 hm c27
theorem k29:EnvOk Tryz.prog E29:=yae k28 hm c28
theorem k30:EnvOk Tryz.prog E30:=yae k29 hm c29
theorem k31:EnvOk Tryz.prog E31:=yae k30 hm c30
theorem k32:EnvOk Tryz.prog E32:=yae k31 hm c31
theorem k33:EnvOk Tryz.prog E33:=yae k32 hm c32
theorem k34:EnvOk Tryz.prog E34:=yae k33 hm c33
theorem k35:EnvOk Tryz.prog E35:=yae k34 hm c34
theorem k36:EnvOk Tryz.prog E36:=yae k35 hm c35
theorem k37:EnvOk Tryz.prog E37:=yae k36 hm c36
theorem k38:EnvOk Tryz.prog E38:=yae k37 hm c37
theorem k39:EnvOk Tryz.prog E39:=yae k38 hm c38
theorem k40:EnvOk Tryz.prog E40:=yae k39 hm c39
theorem k41:EnvOk Tryz.prog E41:=yae k40 hm c40
theorem k42:EnvOk Tryz.prog E42:=yae k41 hm c41
theorem k43:EnvOk Tryz.prog E43:=yae k42 hm c42
theorem k44:EnvOk Tryz.prog E44:=yae k43 hm c43
theorem k45:EnvOk Tryz.prog E45:=yae k44 hm c44
theorem k46:EnvOk Tryz.prog E46:=yae k45 hm c45
theorem k47:EnvOk Tryz.prog E47:=yae k46 hm c46
theorem k48:EnvOk Tryz.prog E48:=yae k47 hm c47
theorem k49:EnvOk Tryz.prog E49:=yae k48 hm c48
theorem k50:EnvOk Tryz.prog E50:=yae k49 hm c49
theorem k51:EnvOk Tryz.prog E51:=yae k50 hm c50
theorem k52:EnvOk Tryz.prog E52:=yae k51 hm c51
theorem k53:EnvOk Tryz.prog E53:=yae k52 hm c52
theorem k54:EnvOk Tryz.prog E54:=yae k53 hm c53
theorem k55:EnvOk Tryz.prog E55:=yae k54 hm c54
theorem k56:EnvOk Tryz.prog E56:=yae k55 hm c55
theorem k57:EnvOk Tryz.prog E57:=yae k56 hm c56
theorem k58:EnvOk Tryz.prog E58:=yae k57 hm c57
theorem k59:EnvOk Tryz.prog E59:=yae k58 hm c58
theorem k60:EnvOk Tryz.prog E60:=yae k59 hm c59
theorem k61:EnvOk Tryz.prog E61:=yae k60 hm c60
theorem k62:EnvOk Tryz.prog E62:=yae k61 hm c61
theorem k63:EnvOk Tryz.prog E63:=yae k62 hm c62
theorem k64:EnvOk Tryz.prog E64:=yae k63 hm c63
theorem k65:EnvOk Tryz.prog E65:=yae k64 hm c64
theorem k66:EnvOk Tryz.prog E66:=yae k65 hm c65
theorem k67:EnvOk Tryz.prog E67:=yae k66 hm c66
theorem k68:EnvOk Tryz.prog E68:=yae k67 hm c67
theorem k69:EnvOk Tryz.prog E69:=yae k68 hm c68
theorem k70:EnvOk Tryz.prog E70:=yae k69 hm c69
theorem k71:EnvOk Tryz.prog E71:=yae k70 hm c70
theorem k72:EnvOk Tryz.prog E72:=yae k71 hm c71
theorem k73:EnvOk Tryz.prog E73:=yae k72 hm c72
theorem top:topV E73 3000 3 []=some (.bool true):=by kernel_rfl
theorem ylO (xs:List PV) (h:yfZ [] xs):ydC Tryz.prog E0.glob 3 xs (.bool true):=by
  have e:xs=[]:=h
  subst e
  exact yip k73 hm top
theorem rows:∀ t∈Tryz.f3.params.toList,t<Tryz.prog.types.size:=fun t ht =>
  of_decide_eq_true (List.all_eq_true.1 (show (Tryz.f3.params.toList.all fun t=>decide (t<Tryz.prog.types.size))=true by kernel_rfl) t ht)
theorem own:ownKnob Tryz.prog.godebug=none:=by kernel_rfl
theorem kids:Kids Tryz.prog (·<Tryz.prog.types.size):=kids_rows (by kernel_rfl) (by kernel_rfl)
theorem full:∀ t e,t<Tryz.prog.types.size→Tryz.prog.underlying t=some (.slice e)→0<Tryz.prog.cellsOf e:=slices_full_of Tryz.prog (by kernel_rfl)
theorem ylP {n:Nat} {x:PV} (h:E0.glob n=some x):n=0∧x=.agg [.int .i64 0,.int .i64 1]:=by
  have h2:(bif Nat.beq 0 n then some (PV.agg [.int .i64 0,.int .i64 1]) else none)=some x:=h
  cases e:Nat.beq 0 n with
  | true =>
    rw [e] at h2
    exact ⟨(Nat.eq_of_beq_eq_true e).symm,(Option.some.inj h2).symm⟩
  | false=>rw [e] at h2;cases h2
theorem yi4 {W:World} {I:Nat→Prop} (h:laidMetH Tryz.prog Rows.boundsNamesRow.laid W) (hI:I 0):ygB E0.glob I W:=by
  rw [MakeChecks.laidMetH_plain _ _ _ (by kernel_rfl)] at h
  obtain ⟨ps,⟨g,t,cs,fuel,p,q,hg,ht,hv,hd,_,_⟩,_,_⟩:=h
  obtain rfl := Option.some.inj ((show Tryz.prog.globalNamed "parcener/choose.zero" = some 0 by kernel_rfl).symm.trans hg)
  obtain rfl:=Option.some.inj ((show (Tryz.prog.globals[0]?).map (·.type)=some 45 by kernel_rfl).symm.trans ht)
  obtain ⟨y0,y1,m,ex,hl,h0,h1⟩:=trod_struct2 Tryz.underlying45 hd
  have c1:Tryz.prog.cellsOf 2=1:=by kernel_rfl
  have c2:Tryz.prog.cellsOf 45=2:=by kernel_rfl
  rw [c2] at hl
  have hcs:∃ a b,cs.toList=[a,b]:=by
    match hc:cs.toList with
    | [a,b]=>exact ⟨a,b,rfl⟩
    | []=>rw [hc] at hl;cases hl
    | [a]=>rw [hc] at hl;cases hl
    | a::b::c::r=>rw [hc] at hl;simp at hl
  obtain ⟨a,b,hcs⟩:=hcs
  rw [hcs] at h0 h1
  obtain ⟨z0,e0,f0,_⟩:=DataW.trod_int Tryz.underlying2 h0
  obtain ⟨z1,e1,f1,_⟩:=DataW.trod_int Tryz.underlying2 h1
  rw [f0,f1] at ex
  have ex2:=(DataW.agg.inj (Prod.mk.inj ex).1)
  simp only [List.cons.injEq,DataW.lit.injEq,Lit.int.injEq,true_and,and_true] at ex2
  obtain ⟨rfl,rfl⟩:=ex2
  have ea:a=.int .i64 0:=by
    have h3:[a]=[Value.int .i64 0]:=e0
    simpa using h3
  have eb:b=.int .i64 1:=by
    have h3:[b]=[Value.int .i64 1]:=e1
    simpa using h3
  subst ea;subst eb
  intro n x hx
  obtain ⟨rfl,rfl⟩:=ylP hx
  refine ⟨hI,[.int .i64 0,.int .i64 1],by decide,?_,?_⟩
  · simp only [RC,yah]
    exact ⟨_,_,rfl,rfl,⟨rfl,by decide,by decide⟩,_,_,rfl,rfl,⟨rfl,by decide,by decide⟩,rfl⟩
  · intro j u hu
    rw [World.var?_cell hg hv (0+j),Nat.zero_add,← Array.getElem?_toList,hcs]
    exact hu
theorem ypS (os:Os) (started:os.Started) (H:Type) (enc:TypeId×Value→H) :
    ReturnsInHanded {} Tryz.checked os 3 .any (fun w args=>(Rows.boundsNamesSpec.pre enc Tryz.prog Tryz.f3 Rows.boundsNamesRow.domain false w args∧laidMetH Tryz.prog Rows.boundsNamesRow.laid w)∧sizedMet enc Tryz.prog Tryz.f3 (OpenSpec.ofChange Rows.boundsNamesSpec) false w args)
      (Rows.boundsNamesSpec.post enc Tryz.prog Tryz.f3 false true false false):=by
  refine returnsInHanded_of_change_and (C:=Tryz.checked) (X:=fun w _=>laidMetH Tryz.prog Rows.boundsNamesRow.laid w) (fun _ _ _ hh h=>h.of_heap hh) own started (by kernel_rfl) Tryz.func3
    (ChangeSpec.witness_shaped (enc:=enc) (C:=Tryz.checked) (os:=os) (X:=fun w _=>laidMetH Tryz.prog Rows.boundsNamesRow.laid w) false (World.laidAll Tryz.prog os Rows.boundsNamesRow.laid) #[] 8 (World.laidAll_os _ _ _)
      (World.shaped_of_ZipB (by kernel_rfl) (by kernel_rfl)) (by kernel_rfl) (by kernel_rfl) (by kernel_rfl)
      (by rw [MakeChecks.laidMetH_plain _ _ _ (by kernel_rfl)];exact laidMet_laidAll _ (by kernel_rfl) (by kernel_rfl))) ?_
  intro W base args ds gs before hval hW _ _ hL _
  have hlt:∀ b,b=0→b<W.heap.size:=by
    rintro b rfl
    have h:=hL
    rw [MakeChecks.laidMetH_plain _ _ _ (by kernel_rfl)] at h
    obtain ⟨ps,⟨g,t,cs,fuel,p,q,hg,_,hv,_,_,_⟩,_,_⟩:=h
    obtain rfl := Option.some.inj ((show Tryz.prog.globalNamed "parcener/choose.zero" = some 0 by kernel_rfl).symm.trans hg)
    simp only [World.var?,hg,Option.bind_some] at hv
    split at hv
    · rename_i hh
      exact (Array.getElem?_eq_some_iff.1 hh).1
    · cases hv
  exact yjI kids full (dss:=[]) (bt:=4) (by kernel_rfl) rows Tryz.func3 (by kernel_rfl) (by kernel_rfl) rfl (fun ds h=>by match ds,h with | [],_=>rfl) (by kernel_rfl) Tryz.underlying4
    ylO hval hW (fun b=>b=0) hlt (yi4 hL (.inr rfl))
theorem yi5:Rows.BoundsNamesSaid :=
  OpenClaim.holds_of_wide 3 Tryz.f3 rfl rfl rfl rfl rfl rfl rfl ⟨rfl,rfl,rfl,rfl,rfl⟩ rfl rfl rfl rfl rfl (by kernel_rfl) Tryz.func3 (by kernel_rfl)
    (of_decide_eq_true (by kernel_rfl)) (by unfold Func.isWrapper;first | (rw [if_pos (by decide +kernel)];kernel_rfl) | (rw [if_neg (by decide +kernel)];exact ⟨rfl,rfl⟩))
    (fun os started H enc _=>ypS os started H enc)
theorem proved:Rows.BoundsNamesCardSaid :=
  Claim7.holds_tied_plain_at .later [] [.data] true (true, "6a1bd68ae50d8852180f4c4734467bde3cfa8a314cd1516e00eeab7e77868d9c") true yi5 (fun _ h => by cases h) (by kernel_rfl) (fun _ h => by cases h) boundsNames_row_tie rfl ⟨rfl, rfl⟩ (by kernel_rfl) rfl
    (fun f fn hf hfn=>by
      obtain rfl : f = 3 := Option.some.inj ((show Tryz.prog.funcNamed "parcener/parcenerlaw45.BoundsNames" = some 3 by kernel_rfl).symm.trans hf) |>.symm
      obtain rfl:fn=Tryz.f3:=(Option.some.inj (Tryz.func3.symm.trans hfn)).symm
      exact ⟨by kernel_rfl,fun j t ht=>by
        rw [Tryz.params3] at ht
        have hm:t∈[]:=by simpa using Array.mem_of_getElem? ht
        have hall:([].all fun u=>!Tryz.prog.wantsStandIn u)=true:=by kernel_rfl
        exact (show Tryz.prog.wantsStandIn t=false by simpa using List.all_eq_true.1 hall t hm)⟩)
    (by kernel_rfl)
#print axioms proved
end Go.Proofs.YtlooeiaiafmikaaGreatDoor.Bn
