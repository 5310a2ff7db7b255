/- The row of MediateErrors, out of closed evaluations. -/
import Derived.Test.YtpdichdneifdeaaGreatDoorLawA
import Derived.Test.YtpdichdneifdeaaGreatDoorCutErrors
import Derived.Test.YtpdichdneifdeaaGreatDoorFactsErrors
namespace Go.Ev
open Go.Proofs Go.ChangeShapes Go.WideShapes Go.ChangeAt Go.RowKit
open Go.Proofs.YtpdichdneifdeaaGreatDoor
set_option linter.unusedVariables false
set_option maxRecDepth 100000
theorem mediateErrors_lifted (hall : ∀ r, r < 7 → isTrue (fnA (E2 mErrors_l) 100000 5 [.res false 7 r] ⟨0, .leaf⟩) = true) (hts : ∀ t ∈ mErrors_l, ∃ ks, cutOk (fnA E0 100000 175 [.str t.n t.l] ⟨0, .leaf⟩) ks t.c = true) (haw : cutOk (fnA (E1 mErrors_l) 100000 21 [] ⟨0, .leaf⟩) [] yes = true) (os : Os) (started : os.Started) (H : Type) (enc : TypeId × Value → H) :
    ReturnsInHanded {} Tryz.checked os 5 .any (fun w args => (Rows.mediateErrorsSpec.pre enc Tryz.prog Tryz.f5 [] false w args ∧ laidMetH Tryz.prog laid w) ∧ sizedMet enc Tryz.prog Tryz.f5 (OpenSpec.ofChange Rows.mediateErrorsSpec) false w args)
      (Rows.mediateErrorsSpec.post enc Tryz.prog Tryz.f5 false true false false) := by
  refine wrap (C := Tryz.checked) (X := fun w _ => laidMetH Tryz.prog laid w) (fun _ _ _ hh h => h.of_heap hh) own started (by kernel_rfl) Tryz.func5
    (ChangeSpec.witness_at (enc := enc) (C := Tryz.checked) (os := os) (X := fun w _ => laidMetH Tryz.prog laid w) false (laidWorld os) #[.int .i64 0] 8 rfl (by kernel_rfl) (by kernel_rfl) (by kernel_rfl) (by kernel_rfl) (by kernel_rfl) (laidWorld_met os _)) ?_
  intro W base args ds gs before hval0 hW hsh
  have hval : ∀ (j : Nat) t v, Tryz.f5.params[j]? = some t → args[j]? = some v → Value.okWide Tryz.prog W .any base t v := hval0
  have hW' := hW
  obtain ⟨p, q, hA0, hV, rfl, hfz, hnd⟩ := hW
  have hA : DataW.TrodAll enc Tryz.prog W 0 (fun _ => true) true Tryz.f5.params.toList args.toList ds p := hA0
  rw [Tryz.params5] at hA hval
  obtain ⟨v0, d0, rfl, rfl, h0⟩ := trodAll_one hA
  obtain ⟨rfl, rfl⟩ := trodVars_none hV
  obtain ⟨n0, rfl, rfl, rfl, hwn0⟩ := open_int Tryz.underlying3 (hval 0 3 v0 rfl rfl) h0
  clear hA0 hval0
  simp only [List.append_nil] at hW'
  obtain ⟨G, hG1, hG2⟩ := keep_of hsh
  obtain ⟨r, hr, hv⟩ := res_of 7 (by decide) n0
  refine (run_true (E := E2 mErrors_l) (envE_ok fun _ => rfl) (plain_ok fun _ => rfl) (fnE_ok (fun _ => rfl) rfl) (e2_ok hts haw hG2) (hall r hr) (.cons _ _ _ _ hv .nil) hG1 (Go.Proofs.enters_of Tryz.func5 (by kernel_rfl) rfl _ _)).mono fun e W' ⟨he, hk⟩ => ?_
  subst he
  refine ⟨_, rfl, _, _, _, [], [], [], hW', ?_, ?_, ?_, hk.but _, fun h => by cases h⟩
  · exact trodAll_mk1 (shut_bool Tryz.underlying4 true)
  · exact trodAll_mk1 (shut_int Tryz.underlying3 hwn0)
  · rfl
theorem mediateErrors_said (hall : ∀ r, r < 7 → isTrue (fnA (E2 mErrors_l) 100000 5 [.res false 7 r] ⟨0, .leaf⟩) = true) (hts : ∀ t ∈ mErrors_l, ∃ ks, cutOk (fnA E0 100000 175 [.str t.n t.l] ⟨0, .leaf⟩) ks t.c = true) (haw : cutOk (fnA (E1 mErrors_l) 100000 21 [] ⟨0, .leaf⟩) [] yes = true) : Rows.MediateErrorsSaid :=
  OpenClaim.holds_of_wide 5 Tryz.f5 rfl rfl rfl rfl rfl rfl rfl ⟨rfl, rfl, rfl, rfl, rfl⟩ rfl rfl rfl rfl rfl (by kernel_rfl) Tryz.func5 mediateErrors_closed
    (of_decide_eq_true (by kernel_rfl)) (by unfold Func.isWrapper; first | (rw [if_pos (by decide +kernel)]; kernel_rfl) | (rw [if_neg (by decide +kernel)]; exact ⟨rfl, rfl⟩))
    (fun os started H enc _ => mediateErrors_lifted hall hts haw os started H enc)
end Go.Ev
