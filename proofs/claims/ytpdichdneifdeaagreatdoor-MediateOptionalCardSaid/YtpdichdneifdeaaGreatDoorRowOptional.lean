/- The row of MediateOptional, out of closed evaluations. -/
import Derived.Test.YtpdichdneifdeaaGreatDoorLawA
import Derived.Test.YtpdichdneifdeaaGreatDoorCutOptional
import Derived.Test.YtpdichdneifdeaaGreatDoorFactsOptional
namespace Go.Ev
open Go.Proofs Go.ChangeShapes Go.WideShapes Go.ChangeAt Go.RowKit
open Go.Proofs.YtpdichdneifdeaaGreatDoor
set_option linter.unusedVariables false
set_option maxRecDepth 100000
theorem mediateOptional_lifted (hall : ∀ a r b, r < 4 → isTrue (fnA (E2 mOptional_l) 100000 7 [.bool a, .res false 4 r, .bool b] ⟨0, .leaf⟩) = true) (hts : ∀ t ∈ mOptional_l, ∃ ks, cutOk (fnA E0 100000 175 [.str t.n t.l] ⟨0, .leaf⟩) ks t.c = true) (haw : cutOk (fnA (E1 mOptional_l) 100000 21 [] ⟨0, .leaf⟩) [] yes = true) (os : Os) (started : os.Started) (H : Type) (enc : TypeId × Value → H) :
    ReturnsInHanded {} Tryz.checked os 7 .any (fun w args => (Rows.mediateOptionalSpec.pre enc Tryz.prog Tryz.f7 [] false w args ∧ laidMetH Tryz.prog laid w) ∧ sizedMet enc Tryz.prog Tryz.f7 (OpenSpec.ofChange Rows.mediateOptionalSpec) false w args)
      (Rows.mediateOptionalSpec.post enc Tryz.prog Tryz.f7 false true false false) := by
  refine wrap (C := Tryz.checked) (X := fun w _ => laidMetH Tryz.prog laid w) (fun _ _ _ hh h => h.of_heap hh) own started (by kernel_rfl) Tryz.func7
    (ChangeSpec.witness_at (enc := enc) (C := Tryz.checked) (os := os) (X := fun w _ => laidMetH Tryz.prog laid w) false (laidWorld os) #[.bool false, .int .i64 0, .bool false] 8 rfl (by kernel_rfl) (by kernel_rfl) (by kernel_rfl) (by kernel_rfl) (by kernel_rfl) (laidWorld_met os _)) ?_
  intro W base args ds gs before hval0 hW hsh
  have hval : ∀ (j : Nat) t v, Tryz.f7.params[j]? = some t → args[j]? = some v → Value.okWide Tryz.prog W .any base t v := hval0
  have hW' := hW
  obtain ⟨p, q, hA0, hV, rfl, hfz, hnd⟩ := hW
  have hA : DataW.TrodAll enc Tryz.prog W 0 (fun _ => true) true Tryz.f7.params.toList args.toList ds p := hA0
  rw [Tryz.params7] at hA hval
  obtain ⟨v0, v1, v2, d0, d1, d2, p0, p1, p2, rfl, rfl, rfl, h0, h1, h2⟩ := trodAll_three hA
  obtain ⟨rfl, rfl⟩ := trodVars_none hV
  obtain ⟨n0, rfl, rfl, rfl⟩ := open_bool Tryz.underlying4 (hval 0 4 v0 rfl rfl) h0
  obtain ⟨n1, rfl, rfl, rfl, hwn1⟩ := open_int Tryz.underlying3 (hval 1 3 v1 rfl rfl) h1
  obtain ⟨n2, rfl, rfl, rfl⟩ := open_bool Tryz.underlying4 (hval 2 4 v2 rfl rfl) h2
  clear hA0 hval0
  simp only [List.append_nil] at hW'
  obtain ⟨G, hG1, hG2⟩ := keep_of hsh
  obtain ⟨r, hr, hv⟩ := res_of 4 (by decide) n1
  refine (run_true (E := E2 mOptional_l) (envE_ok fun _ => rfl) (plain_ok fun _ => rfl) (fnE_ok (fun _ => rfl) rfl) (e2_ok hts haw hG2) (hall n0 r n2 hr) (.cons _ _ _ _ (.bool n0) (.cons _ _ _ _ hv (.cons _ _ _ _ (.bool n2) .nil))) hG1 (Go.Proofs.enters_of Tryz.func7 (by kernel_rfl) rfl _ _)).mono fun e W' ⟨he, hk⟩ => ?_
  subst he
  refine ⟨_, rfl, _, _, _, [], [], [], hW', ?_, ?_, ?_, hk.but _, fun h => by cases h⟩
  · exact trodAll_mk1 (shut_bool Tryz.underlying4 true)
  · exact trodAll_mk3 (shut_bool Tryz.underlying4 n0) (shut_int Tryz.underlying3 hwn1) (shut_bool Tryz.underlying4 n2)
  · rfl
theorem mediateOptional_said (hall : ∀ a r b, r < 4 → isTrue (fnA (E2 mOptional_l) 100000 7 [.bool a, .res false 4 r, .bool b] ⟨0, .leaf⟩) = true) (hts : ∀ t ∈ mOptional_l, ∃ ks, cutOk (fnA E0 100000 175 [.str t.n t.l] ⟨0, .leaf⟩) ks t.c = true) (haw : cutOk (fnA (E1 mOptional_l) 100000 21 [] ⟨0, .leaf⟩) [] yes = true) : Rows.MediateOptionalSaid :=
  OpenClaim.holds_of_wide 7 Tryz.f7 rfl rfl rfl rfl rfl rfl rfl ⟨rfl, rfl, rfl, rfl, rfl⟩ rfl rfl rfl rfl rfl (by kernel_rfl) Tryz.func7 mediateOptional_closed
    (of_decide_eq_true (by kernel_rfl)) (by unfold Func.isWrapper; first | (rw [if_pos (by decide +kernel)]; kernel_rfl) | (rw [if_neg (by decide +kernel)]; exact ⟨rfl, rfl⟩))
    (fun os started H enc _ => mediateOptional_lifted hall hts haw os started H enc)
end Go.Ev
