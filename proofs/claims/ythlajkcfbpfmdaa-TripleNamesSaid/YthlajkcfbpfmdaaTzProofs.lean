/- The statement TripleNames: whatever the memory and the schedule, the law's function, which has no argument, returns true. -/
import Derived.Test.YthlajkcfbpfmdaaTzM
import Derived.Test.YthlajkcfbpfmdaaTzC0
import Derived.Test.YthlajkcfbpfmdaaTzC1
import Derived.Test.YthlajkcfbpfmdaaTzC2
import Derived.Test.YthlajkcfbpfmdaaTzC3
import Derived.WalkKit
import Derived.ProofKit
import Derived.OpenShut
import Derived.Below
import Derived.ChangeSame
namespace Go.Proofs.Ythlajkcfbpfmdaa.Tz
open Go Go.Pf Go.ChangeShapes Go.WideShapes Go.ChangeAt Go.RowKit

set_option maxRecDepth 100000
theorem k1 : EnvOk Try.prog E1 := plus_ok k0 hm c0
theorem k2 : EnvOk Try.prog E2 := plus_ok k1 hm c1
theorem k3 : EnvOk Try.prog E3 := plus_ok k2 hm c2
theorem k4 : EnvOk Try.prog E4 := plus_ok k3 hm c3
theorem k5 : EnvOk Try.prog E5 := plus_ok k4 hm c4
theorem k6 : EnvOk Try.prog E6 := plus_ok k5 hm c5
theorem k7 : EnvOk Try.prog E7 := plus_ok k6 hm c6
theorem k8 : EnvOk Try.prog E8 := plus_ok k7 hm c7
theorem k9 : EnvOk Try.prog E9 := plus_ok k8 hm c8
theorem k10 : EnvOk Try.prog E10 := plus_ok k9 hm c9
theorem k11 : EnvOk Try.prog E11 := plus_ok k10 hm c10
theorem k12 : EnvOk Try.prog E12 := plus_ok k11 hm c11
theorem k13 : EnvOk Try.prog E13 := plus_ok k12 hm c12
theorem k14 : EnvOk Try.prog E14 := plus_ok k13 hm c13
theorem k15 : EnvOk Try.prog E15 := plus_ok k14 hm c14
theorem k16 : EnvOk Try.prog E16 := plus_ok k15 hm c15
theorem k17 : EnvOk Try.prog E17 := plus_ok k16 hm c16
theorem k18 : EnvOk Try.prog E18 := plus_ok k17 hm c17
theorem k19 : EnvOk Try.prog E19 := plus_ok k18 hm c18
theorem k20 : EnvOk Try.prog E20 := plus_ok k19 hm c19
theorem k21 : EnvOk Try.prog E21 := plus_ok k20 hm c20
theorem k22 : EnvOk Try.prog E22 := plus_ok k21 hm c21
theorem k23 : EnvOk Try.prog E23 := plus_ok k22 hm c22
theorem k24 : EnvOk Try.prog E24 := plus_ok k23 hm c23
theorem k25 : EnvOk Try.prog E25 := plus_ok k24 hm c24
theorem k26 : EnvOk Try.prog E26 := plus_ok k25 hm c25
theorem k27 : EnvOk Try.prog E27 := plus_ok k26 hm c26
theorem k28 : EnvOk Try.prog E28 := plus_ok k27 hm c27
theorem k29 : EnvOk Try.prog E29 := plus_ok k28 hm c28
theorem k30 : EnvOk Try.prog E30 := plus_ok k29 hm c29
theorem k31 : EnvOk Try.prog E31 := plus_ok k30 hm c30
theorem k32 : EnvOk Try.prog E32 := plus_ok k31 hm c31
theorem k33 : EnvOk Try.prog E33 := plus_ok k32 hm c32
theorem k34 : EnvOk Try.prog E34 := plus_ok k33 hm c33
theorem k35 : EnvOk Try.prog E35 := plus_ok k34 hm c34
theorem isT (v : Value) (w : World) : (Instr.makeInterface 62 v).run Try.prog w = .ok (.iface 62 v) w := by kernel_rfl
theorem rlOk : RlOk Try.prog E35.nodn 62 [26, 25, 14] := ⟨⟨_, loc26, fun i => (fg26.lookup i).getD [], lit26, Try.func26, by kernel_rfl, comp26, by kernel_rfl⟩, ⟨_, loc25, fun i => (fg25.lookup i).getD [], lit25, Try.func25, by kernel_rfl, comp25, by kernel_rfl⟩, ⟨_, loc14, fun i => (fg14.lookup i).getD [], lit14, Try.func14, by kernel_rfl, comp14, by kernel_rfl⟩, trivial⟩
theorem isC : InlineOk Try.prog E35.nodn (fun m xs H => armOf (catchE E35.nodn [26, 25, 14] 20 3000 m xs H)) :=
  catch_ok k35.nodn hm (fun _ => rfl) rlOk isT (fu := Try.f20) (fn := lit20) (loc := loc20) (fg := fun i => (fg20.lookup i).getD []) Try.func20 (by kernel_rfl) comp20 rfl rfl ⟨rfl, rfl, rfl⟩ rfl rfl (by kernel_rfl)
    fun ad k w w2 h => @caught_go Try.prog 62 13 Try.f13 _ _ _ _ _ _ _ _ _ _ _ _ _ _ _ _ _ _ _ _ _ _ _ _ _ _ _ 0 _ _ Try.func13 (by decide) rfl rfl rfl ⟨rfl, rfl, rfl⟩ rfl ⟨rfl, rfl, rfl⟩ ⟨rfl, rfl, rfl⟩ ⟨rfl, rfl, rfl⟩ ⟨rfl, rfl, rfl⟩ ⟨rfl, rfl, rfl⟩ ⟨rfl, rfl, rfl⟩ ⟨rfl, rfl, rfl⟩ ⟨rfl, rfl, rfl⟩ ⟨rfl, rfl, rfl⟩ ⟨rfl, rfl, rfl⟩ ⟨rfl, rfl, rfl⟩ ⟨rfl, rfl, rfl⟩ ⟨rfl, rfl, rfl⟩ ⟨rfl, rfl, rfl⟩ ⟨rfl, rfl, rfl⟩ ⟨rfl, rfl, rfl⟩ (fun k w => by kernel_rfl) (fun k w => by kernel_rfl) ad k w w2 h
theorem kC : EnvOk Try.prog EC := ctch_ok k35 isC
theorem k36 : EnvOk Try.prog E36 := plus_ok kC hm c35
theorem k37 : EnvOk Try.prog E37 := plus_ok k36 hm c36
theorem k38 : EnvOk Try.prog E38 := plus_ok k37 hm c37
theorem k39 : EnvOk Try.prog E39 := plus_ok k38 hm c38
theorem k40 : EnvOk Try.prog E40 := plus_ok k39 hm c39
theorem k41 : EnvOk Try.prog E41 := plus_ok k40 hm c40
theorem k42 : EnvOk Try.prog E42 := plus_ok k41 hm c41
theorem k43 : EnvOk Try.prog E43 := plus_ok k42 hm c42
theorem k44 : EnvOk Try.prog E44 := plus_ok k43 hm c43
theorem top : topV E44 3000 3 [] = some (.bool true) := by kernel_rfl
set_option maxRecDepth 100000 in
theorem walk (w : World) : Calls Try.prog 3 #[] w fun e w' => e = .returned (.bool true) ∧ Below w.heap.size w w' :=
  calls_closed (sum_top k44 hm top) Try.func3 (by kernel_rfl) (by kernel_rfl) w

theorem own : ownKnob Try.prog.godebug = none := by kernel_rfl

section
variable {H : Type} {enc : TypeId × Value → H} {P : Program}
theorem post_of_below {f : Func} {s : ChangeSpec} {apart fresh handsOn again : Bool} {W W' : World} {args : Array Value} {v : Value} {ds gs : List (DataW H)} {before pa pv : List MemPlace}
    (hW : DataW.Whole enc P f.params.toList s.vars apart W args.toList ds gs before)
    (hres : ∀ (b : Nat) (sp : Nat → Bool) (hd : Bool), DataW.TrodAll enc P W' b sp hd f.resultTypes.toList (v.resultList f.resultTypes.size) (s.fn H (ds ++ gs)).results [])
    (hargs : ∀ sp : Nat → Bool, (∀ p ∈ before, sp p.block = true) → DataW.TrodAll enc P W' 0 sp true f.params.toList args.toList (s.fn H (ds ++ gs)).args pa)
    (hvars : ∀ sp : Nat → Bool, (∀ p ∈ before, sp p.block = true) → DataW.TrodVars enc P W' sp s.vars (s.fn H (ds ++ gs)).vars pv)
    (hps : before = pa ++ pv) (hb : Below W.heap.size W W')
    (hok : ∀ (j : Nat) (t : TypeId) (r : Value), f.resultTypes[j]? = some t → (v.resultList f.resultTypes.size)[j]? = some r → Value.okWide P W' .any 0 t r) :
    s.post enc P f apart fresh handsOn again W args v W' := by
  have hlt : ∀ p ∈ before, p.block < W.heap.size := fun p hp => hW.lt p hp
  have hold : ∀ p ∈ before, (fun b => decide (b < W.heap.size)) p.block = true := fun p hp => by simpa using hlt p hp
  refine ⟨ds, gs, before, [], pa, pv, hW, hres _ _ _, hargs _ hold, hvars _ hold, World.keptBut_mono (fun p hp => ⟨hp, ?_⟩) (hb.frame (· ∈ before)), fun _ => ?_⟩
  · rw [hps, List.mem_append] at hp
    exact Or.inr hp
  · obtain ⟨_, _, _, _, _, hz, hn⟩ := hW
    refine ⟨hok, _, _, ([] ++ pa) ++ pv, ⟨[] ++ pa, pv, trodAll_append (hargs _ (fun _ _ => rfl)) (hres _ _ _), hvars _ (fun _ _ => rfl), rfl, ?_, ?_⟩, ?_⟩
    · intro b off hp
      have hin : MemPlace.cell b off ∈ before := by rw [hps]; simpa using hp
      rw [hb.frozen (hlt _ hin)]
      exact hz b off hin
    · intro ha
      have := hn ha
      rw [hps] at this
      simpa using this
    · intro p hp _
      rw [hps]
      simpa using hp
end

set_option maxRecDepth 100000 in
theorem lifted (os : Os) (started : os.Started) (H : Type) (enc : TypeId × Value → H) :
    ReturnsInHanded {} Try.checked os 3 .any (Rows.tripleNamesSpec.pre6 enc Try.prog Try.f3 Rows.tripleNamesRow.domain false) (Rows.tripleNamesSpec.post enc Try.prog Try.f3 false true false false) := by
  refine returnsInHanded_of_change (C := Try.checked) own started (by kernel_rfl) Try.func3
    (ChangeSpec.witness6 (enc := enc) (C := Try.checked) false ⟨#[], #[], []⟩ 8 (by kernel_rfl) (by kernel_rfl) (by kernel_rfl) (by kernel_rfl)) ?_
  intro W base args ds gs before hval0 hW hcnd _
  have hW' := hW
  obtain ⟨p, q, hA0, hV, rfl, hfz, hnd⟩ := hW
  have hA : DataW.TrodAll enc Try.prog W 0 (fun _ => true) true Try.f3.params.toList args.toList ds p := hA0
  rw [Try.params3] at hA
  obtain ⟨rfl, rfl, rfl⟩ := trodAll_none hA
  obtain ⟨rfl, rfl⟩ := trodVars_none hV
  clear hA0 hval0
  simp only [List.append_nil] at hW'
  refine (walk W).mono fun e W' ⟨he, hg⟩ => ?_
  subst he
  exact ⟨_, rfl, post_of_below (pa := []) (pv := []) hW' (fun _ _ _ => (trodAll_cons_mk (shut_bool Try.underlying4 _) trodAll_mk0)) (fun sp _ => rfl) (fun _ _ => rfl) rfl
    hg (ok_one (by kernel_rfl) rfl (okWide_bool_mk Try.underlying4 _))⟩

theorem over : Rows.tripleNamesRow.holds Try.pinned (OpenSpec.ofChange Rows.tripleNamesSpec) :=
  OpenClaim.holds_of_wide 3 Try.f3 rfl rfl rfl rfl rfl rfl rfl ⟨rfl, rfl, rfl, rfl, rfl⟩ rfl rfl rfl rfl rfl (by kernel_rfl) Try.func3 (by kernel_rfl)
    (of_decide_eq_true (by kernel_rfl)) (by unfold Func.isWrapper; first | (rw [if_pos (by decide +kernel)]; kernel_rfl) | (rw [if_neg (by decide +kernel)]; exact ⟨rfl, rfl⟩))
    (fun os started H enc _ => lifted os started H enc)

theorem proved : Rows.TripleNamesSaid := over
#print axioms proved
end Go.Proofs.Ythlajkcfbpfmdaa.Tz
