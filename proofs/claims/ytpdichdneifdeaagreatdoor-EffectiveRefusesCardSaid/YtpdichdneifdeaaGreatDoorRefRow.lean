/- The row of EffectiveRefuses, out of nine closed evaluations. -/
import Derived.Test.YtpdichdneifdeaaGreatDoorLawA
import Derived.Test.YtpdichdneifdeaaGreatDoorRefFacts
namespace Go.Ev
open Go.Proofs Go.ChangeShapes Go.WideShapes Go.ChangeAt Go.RowKit
open Go.Proofs.YtpdichdneifdeaaGreatDoor
set_option linter.unusedVariables false
set_option maxRecDepth 100000

theorem eok : EnvOK Tryz.prog E0 := envE_ok fun _ => rfl
theorem pok : PlainOK Tryz.prog E0 := plain_ok fun _ => rfl
theorem fok : FnOK Tryz.prog E0 := fnE_ok (fun _ => rfl) rfl

theorem refuses_lifted (hall : ∀ r, r < 9 → isTrue (fnA E0 100000 3 [.res false 9 r] ⟨0, .leaf⟩) = true) (os : Os) (started : os.Started) (H : Type) (enc : TypeId × Value → H) :
    ReturnsInHanded {} Tryz.checked os 3 .any (fun w args => (Rows.effectiveRefusesSpec.pre enc Tryz.prog Tryz.f3 [] false w args ∧ laidMetH Tryz.prog laid w) ∧ sizedMet enc Tryz.prog Tryz.f3 (OpenSpec.ofChange Rows.effectiveRefusesSpec) false w args)
      (Rows.effectiveRefusesSpec.post enc Tryz.prog Tryz.f3 false true false false) := by
  refine wrap (C := Tryz.checked) (X := fun w _ => laidMetH Tryz.prog laid w) (fun _ _ _ hh h => h.of_heap hh) own started (by kernel_rfl) Tryz.func3
    (ChangeSpec.witness_at (enc := enc) (C := Tryz.checked) (os := os) (X := fun w _ => laidMetH Tryz.prog laid w) false (laidWorld os) #[.int .i64 0] 8 rfl (by kernel_rfl) (by kernel_rfl) (by kernel_rfl) (by kernel_rfl) (by kernel_rfl) (laidWorld_met os _)) ?_
  intro W base args ds gs before hval0 hW hsh
  have hval : ∀ (j : Nat) t v, Tryz.f3.params[j]? = some t → args[j]? = some v → Value.okWide Tryz.prog W .any base t v := hval0
  have hW' := hW
  obtain ⟨p, q, hA0, hV, rfl, hfz, hnd⟩ := hW
  have hA : DataW.TrodAll enc Tryz.prog W 0 (fun _ => true) true Tryz.f3.params.toList args.toList ds p := hA0
  rw [Tryz.params3] at hA hval
  obtain ⟨v0, d0, rfl, rfl, h0⟩ := trodAll_one hA
  obtain ⟨rfl, rfl⟩ := trodVars_none hV
  obtain ⟨n, rfl, rfl, rfl, hwn⟩ := open_int Tryz.underlying3 (hval 0 3 v0 rfl rfl) h0
  clear hA0 hval0
  simp only [List.append_nil] at hW'
  obtain ⟨G, hG1, hG2⟩ := keep_of hsh
  obtain ⟨r, hr, hv⟩ := res_of 9 (by decide) n
  refine (run_true eok pok fok (intr_ok (fun _ _ => rfl) (fun _ => rfl) hG2) (hall r hr) (.cons _ _ _ _ hv .nil) hG1 (Go.Proofs.enters_of Tryz.func3 (by kernel_rfl) rfl _ _)).mono fun e W' ⟨he, hk⟩ => ?_
  subst he
  refine ⟨_, rfl, _, _, _, [], [], [], hW', ?_, ?_, ?_, hk.but _, fun h => by cases h⟩
  · exact trodAll_mk1 (shut_bool Tryz.underlying4 true)
  · exact trodAll_mk1 (shut_int Tryz.underlying3 hwn)
  · rfl

theorem refuses_said (hall : ∀ r, r < 9 → isTrue (fnA E0 100000 3 [.res false 9 r] ⟨0, .leaf⟩) = true) : Rows.EffectiveRefusesSaid :=
  OpenClaim.holds_of_wide 3 Tryz.f3 rfl rfl rfl rfl rfl rfl rfl ⟨rfl, rfl, rfl, rfl, rfl⟩ rfl rfl rfl rfl rfl (by kernel_rfl) Tryz.func3 effectiveRefuses_closed
    (of_decide_eq_true (by kernel_rfl)) (by unfold Func.isWrapper; first | (rw [if_pos (by decide +kernel)]; kernel_rfl) | (rw [if_neg (by decide +kernel)]; exact ⟨rfl, rfl⟩))
    (fun os started H enc _ => refuses_lifted hall os started H enc)
end Go.Ev
