import Derived.Test.YtpdichdneifdeaaGreatDoorIntr
import Derived.Shelf.Vars
import Derived.Handed
import Derived.Test.YtpdichdneifdeaaGreatDoorRows
import Derived.ProofKit
import Derived.LaidMore
import Derived.OpenShut
import Derived.Stop.Joined
import Derived.ChangeVars
import Derived.JoinedOf
import Derived.RowKit
import Derived.RowKitTokens
import Derived.LaidLaws
import Derived.LaidHandle
namespace Go.Ev
open Go.Proofs
set_option linter.unusedVariables false
set_option maxRecDepth 100000

/-- what lay there lies there -/
structure Kept (w w' : World) : Prop where
  size : w.heap.size ≤ w'.heap.size
  same : ∀ r, r < w.heap.size → w'.heap[r]? = w.heap[r]?
  os : w'.os = w.os
  out : w'.output = w.output
theorem Kept.but {w w' : World} (k : Kept w w') (may : MemPlace → Prop) : w.keptBut w' may := by
  refine ⟨k.os, k.out, fun i hi => ?_⟩
  have h := k.same i hi
  cases ho : w.heap[i]? with
  | none => rw [ho] at h; rw [h]
  | some o =>
    rw [ho] at h; rw [h]
    cases o <;> first | rfl | exact ⟨rfl, rfl, rfl, fun _ _ => rfl⟩ | exact .inr ⟨rfl, rfl⟩

theorem isTrue_ok {r : R2} (h : isTrue r = true) : ∃ h', r = .ok (.bool true) h' := by
  unfold isTrue at h
  split at h
  · exact ⟨_, rfl⟩
  · simp at h
/-- a call that the evaluator answers with yes -/
theorem run_true {P : Program} {E : Env} (hE : EnvOK P E) (hP : PlainOK P E) (hF : FnOK P E) {G : Keep} (hi : IntrOK P G E) {n : Nat} {f : FuncId} {args : List AVal} {args' : Array Value} {w : World}
    (hev : isTrue (fnA E n f args ⟨0, .leaf⟩) = true) (ha : VL (fun _ => .unborn) args args'.toList) (hG : ∀ r o, G r = some o → w.heap[r]? = some o) (hent : (callFunc f args').run P w = .ok (.enter f args') w) :
    Calls P f args' w fun e w' => e = .returned (.bool true) ∧ Kept w w' := by
  obtain ⟨h', hev⟩ := isTrue_ok hev
  have na : ∀ r, ¬ Alive (fun _ => Status.unborn) ⟨0, .leaf⟩ r := fun r ⟨b, x, sh, sz, hb, hd, hm⟩ => by simp at hm
  have hok : Ok G (fun _ => .unborn) ⟨0, .leaf⟩ w := ⟨⟨fun b rb sh sz hm => by simp at hm, fun _ _ => rfl, fun b x hb => trivial, fun b b' x x' r sh sz sh' sz' hb hb' hd hd' hm hm' => by simp at hm⟩, fun r o hr => ⟨hG r o hr, na r⟩⟩
  rcases fnA_ok hE hP hF hi n f args ⟨0, .leaf⟩ _ h' hev _ w args' hok ha with ⟨v', w', μ', h1, _⟩ | ⟨_, h2⟩
  · rw [hent] at h1; simp at h1
  · refine Calls.mono h2 fun e w' he => ?_
    obtain ⟨v', μ', rfl, st, hv⟩ := he
    cases hv
    exact ⟨rfl, st.size, fun r hr => st.frame r hr (na r), st.os, st.out⟩

/-- the variable that the library reads, and whose value is left open -/
theorem keep_of {W : World} (hsh : W.ShapedOpen Tryz.prog) : ∃ G : Keep, (∀ r o, G r = some o → W.heap[r]? = some o) ∧ ∃ c e fr m, G 0 = some (.cells c e fr) ∧ c[0]? = some (.int .i64 m) := by
  obtain ⟨m, hm⟩ := cell_of_shapedOpen_int (g := 0) (zero := #[.int .i64 0]) (t := 3) hsh (of_decide_eq_true (by kernel_rfl)) (by kernel_rfl) rfl (by kernel_rfl) (by kernel_rfl) Tryz.underlying3
  refine ⟨fun r => if r = 0 then W.heap[0]? else none, fun r o h => ?_, ?_⟩
  · by_cases e : r = 0
    · subst e; simpa using h
    · simp [e] at h
  · simp only [World.cell?] at hm
    cases ho : W.heap[0]? with
    | none => rw [ho] at hm; simp at hm
    | some o =>
      rw [ho] at hm
      cases o <;> simp at hm
      rename_i c e fr
      exact ⟨c, e, fr, m, by simp, hm⟩

/-- the numbers: what is left of one -/
theorem res_of (m : Nat) (hm : 0 < m) (x : Int) : ∃ r, r < m ∧ V (fun _ => .unborn) (.res false m r) (.int .i64 x) := by
  refine ⟨((IntKind.u64.wrap x) % (m : Int)).toNat, ?_, .resI m _ x ?_⟩
  · have h1 := Int.emod_lt_of_pos (IntKind.u64.wrap x) (show (0 : Int) < m by omega)
    have h2 := Int.emod_nonneg (IntKind.u64.wrap x) (show (m : Int) ≠ 0 by omega)
    omega
  · have h2 := Int.emod_nonneg (IntKind.u64.wrap x) (show (m : Int) ≠ 0 by omega)
    omega

/-- the wrap, both: a condition on the world, and the world's shape -/
theorem wrap {H : Type} {enc : TypeId × Value → H} {a : Assume} {C : Checked} {os : Os} {f : FuncId} {fn : Func} {s : ChangeSpec} {conds : List PathCond} {apart fresh handsOn again : Bool} {X : World → Array Value → Prop}
    (hX : ∀ (w w' : World) (args : Array Value), w.heap = w'.heap → X w args → X w' args)
    (own : ownKnob C.prog.godebug = none) (started : os.Started) (noInit : C.prog.inits.idxOf? f = none) (hfn : C.prog.funcs[f]? = some fn)
    (witness : ∃ (w : World) (tape : Tape) (i : Input), w.os = os ∧ (w.forCall tape i).Shaped C.prog ∧ i.vars = [] ∧ Input.okWide C.prog (w.forCall tape i) .any w.heap.size f i ∧
      ((s.pre enc C.prog fn conds apart (w.forCall tape i).memory i.args ∧ X (w.forCall tape i).memory i.args) ∧ sizedMet enc C.prog fn (OpenSpec.ofChange s) apart (w.forCall tape i).memory i.args) ∧ a.holds C.prog (lone (Frame.enter C.prog f i.args .normal) [] (w.forCall tape i)))
    (contract : ∀ (W : World) (base : Nat) (args : Array Value) (ds gs : List (DataW H)) (before : List MemPlace),
      (∀ (j : Nat) t v, fn.params[j]? = some t → args[j]? = some v → Value.okWide C.prog W .any base t v) →
      DataW.Whole enc C.prog fn.params.toList s.vars apart W args.toList ds gs before → W.ShapedOpen C.prog →
      Calls C.prog f args W fun e W' => ∃ v, e = .returned v ∧ s.post enc C.prog fn apart fresh handsOn again W args v W') :
    ReturnsInHanded a C os f .any (fun w args => (s.pre enc C.prog fn conds apart w args ∧ X w args) ∧ sizedMet enc C.prog fn (OpenSpec.ofChange s) apart w args) (s.post enc C.prog fn apart fresh handsOn again) := by
  refine returnsInHanded_of_calls own started noInit witness ?_
  intro w tape i _ hsh _ hok hpre hholds
  obtain ⟨_, _, _, fn', hfn', _, _, _, _, hval⟩ := hok
  have e : fn' = fn := Option.some.inj (hfn'.symm.trans hfn)
  subst e
  obtain ⟨⟨⟨ds, gs, before, hw, hc⟩, hx⟩, hz⟩ := hpre
  have hw' := DataW.Whole.of_heap (w' := w.forCall tape i) (by rfl) hw
  refine (contract (w.forCall tape i) w.heap.size i.args ds gs before hval hw' hsh).mono fun e W' ⟨v, he, hp⟩ => ?_
  subst he
  exact ChangeSpec.post_blind hp

/-- what a table's datum lays into memory -/
def cellOf (d : DataW Unit) : Value := match d with | .lit (.int k n) => .int k n | _ => .tuple #[]
def cellsOf1 (d : DataW Unit) : Array Value := match d with | .agg l => (l.map cellOf).toArray | _ => #[]
def cellsOf2 (d : DataW Unit) : Array Value := match d with | .agg l => (l.flatMap fun x => (cellsOf1 x).toList).toArray | _ => #[]
theorem gFirst : Tryz.prog.globalNamed "unicode/utf8.first" = some 1 := by kernel_rfl
theorem gAccept : Tryz.prog.globalNamed "unicode/utf8.acceptRanges" = some 2 := by kernel_rfl
theorem own : ownKnob Tryz.prog.godebug = none := by kernel_rfl
end Go.Ev
namespace Go.Ev
open Go.Proofs Go.ChangeShapes Go.WideShapes Go.ChangeAt Go.RowKit
set_option linter.unusedVariables false
set_option maxRecDepth 100000

/-- the listed variables -/
def laid : List (String × DataW Unit) := [("unicode/utf8.acceptRanges", Go.Proofs.YtpdichdneifdeaaGreatDoor.Rows.laid_unicode_utf8_acceptRanges), ("unicode/utf8.first", Go.Proofs.YtpdichdneifdeaaGreatDoor.Rows.laid_unicode_utf8_first)]
/-- a world in which they lie -/
noncomputable def laidWorld (os : Os) : World :=
  let w0 := World.holding Tryz.prog os ⟨#[], #[], []⟩
  { w0 with heap := (w0.heap.modify 1 fun
      | .cells _ t frozen => .cells (cellsOf1 Go.Proofs.YtpdichdneifdeaaGreatDoor.Rows.laid_unicode_utf8_first) t frozen
      | o => o).modify 2 fun
      | .cells _ t frozen => .cells (cellsOf2 Go.Proofs.YtpdichdneifdeaaGreatDoor.Rows.laid_unicode_utf8_acceptRanges) t frozen
      | o => o }
theorem laidWorld_met (os : Os) (args : Array Value) : laidMetH Tryz.prog laid ((laidWorld os).forCall (fun _ _ => 0) ⟨#[], args, []⟩).memory :=
  laidMetH_of_parts (laidMet_of_run' 8 (by kernel_rfl) (by kernel_rfl)) (by kernel_rfl)
end Go.Ev
