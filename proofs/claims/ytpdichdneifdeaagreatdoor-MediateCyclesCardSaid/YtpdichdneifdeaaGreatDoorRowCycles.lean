/- The row of MediateCycles, out of closed evaluations. -/
import Derived.Test.YtpdichdneifdeaaGreatDoorLawA
import Derived.Test.YtpdichdneifdeaaGreatDoorCutCycles
import Derived.Test.YtpdichdneifdeaaGreatDoorFactsCycles
namespace Go.Ev
open Go.Proofs Go.ChangeShapes Go.WideShapes Go.ChangeAt Go.RowKit
open Go.Proofs.YtpdichdneifdeaaGreatDoor
set_option linter.unusedVariables false
set_option maxRecDepth 100000
theorem mediateCycles_lifted (hall : ∀ r b, r < 6 → isTrue (fnA (E2 mCycles_l) 100000 9 [.res false 6 r, .bool b] ⟨0, .leaf⟩) = true) (hts : ∀ t ∈ mCycles_l, ∃ ks, cutOk (fnA E0 100000 175 [.str t.n t.l] ⟨0, .leaf⟩) ks t.c = true) (haw : cutOk (fnA (E1 mCycles_l) 100000 21 [] ⟨0, .leaf⟩) [] yes = true) (os : Os) (started : os.Started) (H : Type) (enc : TypeId × Value → H) :
    ReturnsInHanded {} Tryz.checked os 9 .any (fun w args => (Rows.mediateCyclesSpec.pre enc Tryz.prog Tryz.f9 [] false w args ∧ laidMetH Tryz.prog laid w) ∧ sizedMet enc Tryz.prog Tryz.f9 (OpenSpec.ofChange Rows.mediateCyclesSpec) false w args)
      (Rows.mediateCyclesSpec.post enc Tryz.prog Tryz.f9 false true false false) := by
  refine wrap (C := Tryz.checked) (X := fun w _ => laidMetH Tryz.prog laid w) (fun _ _ _ hh h => h.of_heap hh) own started (by kernel_rfl) Tryz.func9
    (ChangeSpec.witness_at (enc := enc) (C := Tryz.checked) (os := os) (X := fun w _ => laidMetH Tryz.prog laid w) false (laidWorld os) #[.int .i64 0, .bool false] 8 rfl (by kernel_rfl) (by kernel_rfl) (by kernel_rfl) (by kernel_rfl) (by kernel_rfl) (laidWorld_met os _)) ?_
  intro W base args ds gs before hval0 hW hsh
  have hval : ∀ (j : Nat) t v, Tryz.f9.params[j]? = some t → args[j]? = some v → Value.okWide Tryz.prog W .any base t v := hval0
  have hW' := hW
  obtain ⟨p, q, hA0, hV, rfl, hfz, hnd⟩ := hW
  have hA : DataW.TrodAll enc Tryz.prog W 0 (fun _ => true) true Tryz.f9.params.toList args.toList ds p := hA0
  rw [Tryz.params9] at hA hval
  obtain ⟨v0, v1, d0, d1, p0, p1, rfl, rfl, rfl, h0, h1⟩ := trodAll_two hA
  obtain ⟨rfl, rfl⟩ := trodVars_none hV
  obtain ⟨n0, rfl, rfl, rfl, hwn0⟩ := open_int Tryz.underlying3 (hval 0 3 v0 rfl rfl) h0
  obtain ⟨n1, rfl, rfl, rfl⟩ := open_bool Tryz.underlying4 (hval 1 4 v1 rfl rfl) h1
  clear hA0 hval0
  simp only [List.append_nil] at hW'
  obtain ⟨G, hG1, hG2⟩ := keep_of hsh
  obtain ⟨r, hr, hv⟩ := res_of 6 (by decide) n0
  refine (run_true (E := E2 mCycles_l) (envE_ok fun _ => rfl) (plain_ok fun _ => rfl) (fnE_ok (fun _ => rfl) rfl) (e2_ok hts haw hG2) (hall r n1 hr) (.cons _ _ _ _ hv (.cons _ _ _ _ (.bool n1) .nil)) hG1 (Go.Proofs.enters_of Tryz.func9 (by kernel_rfl) rfl _ _)).mono fun e W' ⟨he, hk⟩ => ?_
  subst he
  refine ⟨_, rfl, _, _, _, [], [], [], hW', ?_, ?_, ?_, hk.but _, fun h => by cases h⟩
  · exact trodAll_mk1 (shut_bool Tryz.underlying4 true)
  · exact trodAll_mk2 (shut_int Tryz.underlying3 hwn0) (shut_bool Tryz.underlying4 n1)
  · rfl
theorem mediateCycles_said (hall : ∀ r b, r < 6 → isTrue (fnA (E2 mCycles_l) 100000 9 [.res false 6 r, .bool b] ⟨0, .leaf⟩) = true) (hts : ∀ t ∈ mCycles_l, ∃ ks, cutOk (fnA E0 100000 175 [.str t.n t.l] ⟨0, .leaf⟩) ks t.c = true) (haw : cutOk (fnA (E1 mCycles_l) 100000 21 [] ⟨0, .leaf⟩) [] yes = true) : Rows.MediateCyclesSaid :=
  OpenClaim.holds_of_wide 9 Tryz.f9 rfl rfl rfl rfl rfl rfl rfl ⟨rfl, rfl, rfl, rfl, rfl⟩ rfl rfl rfl rfl rfl (by kernel_rfl) Tryz.func9 mediateCycles_closed
    (of_decide_eq_true (by kernel_rfl)) (by unfold Func.isWrapper; first | (rw [if_pos (by decide +kernel)]; kernel_rfl) | (rw [if_neg (by decide +kernel)]; exact ⟨rfl, rfl⟩))
    (fun os started H enc _ => mediateCycles_lifted hall hts haw os started H enc)
end Go.Ev
