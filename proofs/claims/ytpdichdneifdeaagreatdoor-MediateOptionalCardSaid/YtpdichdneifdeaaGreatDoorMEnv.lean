import Derived.Test.YtpdichdneifdeaaGreatDoorMem
import Derived.Test.YtpdichdneifdeaaGreatDoorIntr
namespace Go.Ev
open Go.Proofs
set_option linter.unusedVariables false
/-- a text, and what it is read as -/
structure Txt where
  n : Nat
  l : Nat
  c : Cut
noncomputable section
def findT (n l : Nat) : List Txt → Option Cut := List.rec (motive := fun _ => Option Cut) none (fun e _ ih => ifB (Nat.beq n e.n && Nat.beq l e.l) (some e.c) ih)
def parseM (ts : List Txt) (f : Nat) (args : List AVal) : Option Cut := ifB (Nat.beq f (nat_lit 175)) (match args with | [x] => (match x with | .str n l => findT n l ts | _ => none) | _ => none) none
/-- with what texts are read as -/
def E1 (ts : List Txt) : Env := { E0 with memo := parseM ts }
def yes : Cut := ⟨.bool true, []⟩
def awakeM (ts : List Txt) (f : Nat) (args : List AVal) : Option Cut := ifB (Nat.beq f (nat_lit 21)) (match args with | [] => some yes | _ => none) (parseM ts f args)
/-- and with the first line of each law -/
def E2 (ts : List Txt) : Env := { E0 with memo := awakeM ts }
end
theorem eok : EnvOK Tryz.prog E0 := envE_ok fun _ => rfl
theorem pok : PlainOK Tryz.prog E0 := plain_ok fun _ => rfl
theorem fok : FnOK Tryz.prog E0 := fnE_ok (fun _ => rfl) rfl
theorem findT_ok {n l : Nat} {c : Cut} : ∀ {ts : List Txt}, findT n l ts = some c → ∃ t ∈ ts, t.n = n ∧ t.l = l ∧ t.c = c := by
  intro ts
  induction ts with
  | nil => intro h; exact absurd (show (none : Option Cut) = some c from h) (by simp)
  | cons e ts ih =>
    intro h
    have h' : ifB (Nat.beq n e.n && Nat.beq l e.l) (some e.c) (findT n l ts) = some c := h
    cases hb : (Nat.beq n e.n && Nat.beq l e.l) with
    | true =>
      rw [hb, ifB_true] at h'
      rw [Bool.and_eq_true] at hb
      exact ⟨e, by simp, (Nat.eq_of_beq_eq_true hb.1).symm, (Nat.eq_of_beq_eq_true hb.2).symm, by simpa using h'⟩
    | false =>
      rw [hb, ifB_false] at h'
      obtain ⟨t, a, b⟩ := ih h'
      exact ⟨t, by simp [a], b⟩
theorem parseM_ok {ts : List Txt} (hall : ∀ t ∈ ts, ∃ ks, cutOk (fnA E0 100000 175 [.str t.n t.l] ⟨0, .leaf⟩) ks t.c = true) {G : Keep} (hG : ∃ c e fr m, G 0 = some (.cells c e fr) ∧ c[0]? = some (.int .i64 m)) {f : Nat} {args : List AVal} {c : Cut} (h : parseM ts f args = some c)
    {μ : Mu} {hh : Heap} {w : World} {args' : Array Value} {v : AVal} {h' : Heap} (hm : memoA hh c = .ok v h') (hok : Ok G μ hh w) (ha : VL μ args args'.toList) : CallRes Tryz.prog f args' μ hh w v h' := by
  unfold parseM at h
  obtain ⟨hf, h⟩ := ifB_eq h (by simp)
  obtain rfl := Nat.eq_of_beq_eq_true hf
  rcases args with _ | ⟨x, _ | ⟨y, l⟩⟩
  · simp at h
  · cases x <;> simp only [] at h <;> try (simp at h; done)
    obtain ⟨t, ht, rfl, rfl, rfl⟩ := findT_ok h
    obtain ⟨ks, hk⟩ := hall t ht
    exact memo_ok eok pok fok (intr_ok (fun _ _ => rfl) (fun _ => rfl) hG) (by rfl) hk hm hok ha
  · simp at h
theorem e1_ok {ts : List Txt} (hall : ∀ t ∈ ts, ∃ ks, cutOk (fnA E0 100000 175 [.str t.n t.l] ⟨0, .leaf⟩) ks t.c = true) {G : Keep} (hG : ∃ c e fr m, G 0 = some (.cells c e fr) ∧ c[0]? = some (.int .i64 m)) : IntrOK Tryz.prog G (E1 ts) :=
  ⟨fun f args c h μ hh w args' v h' hm hok ha => parseM_ok hall hG h hm hok ha, (intr_ok (E := E0) (fun _ _ => rfl) (fun _ => rfl) hG).2⟩
theorem e2_ok {ts : List Txt} (hall : ∀ t ∈ ts, ∃ ks, cutOk (fnA E0 100000 175 [.str t.n t.l] ⟨0, .leaf⟩) ks t.c = true) (haw : cutOk (fnA (E1 ts) 100000 21 [] ⟨0, .leaf⟩) [] yes = true) {G : Keep} (hG : ∃ c e fr m, G 0 = some (.cells c e fr) ∧ c[0]? = some (.int .i64 m)) : IntrOK Tryz.prog G (E2 ts) := by
  refine ⟨fun f args c h μ hh w args' v h' hm hok ha => ?_, (intr_ok (E := E0) (fun _ _ => rfl) (fun _ => rfl) hG).2⟩
  have h0 : awakeM ts f args = some c := h
  unfold awakeM at h0
  cases hf : Nat.beq f 21 with
  | false => rw [hf, ifB_false] at h0; exact parseM_ok hall hG h0 hm hok ha
  | true =>
    rw [hf, ifB_true] at h0
    obtain rfl := Nat.eq_of_beq_eq_true hf
    cases args with
    | cons x l => simp at h0
    | nil =>
      simp at h0; subst h0
      exact memo_ok (E := E1 ts) (envE_ok fun _ => rfl) (plain_ok fun _ => rfl) (fnE_ok (fun _ => rfl) rfl) (e1_ok hall hG) (by rfl) haw hm hok ha
end Go.Ev
