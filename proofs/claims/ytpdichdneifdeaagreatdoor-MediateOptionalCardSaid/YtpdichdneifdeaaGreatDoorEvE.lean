import Derived.Test.YtpdichdneifdeaaGreatDoorEvD
namespace Go.Ev
set_option linter.unusedVariables false
set_option linter.unusedSimpArgs false

/-! ### bits -/
theorem tB_eq (m t : Nat) : tB m t = m.testBit t := by
  unfold tB
  rw [Nat.testBit_eq_decide_div_mod_eq, show Nat.shiftRight m t = m / 2 ^ t from Nat.shiftRight_eq_div_pow m t]
  cases h : Nat.beq (Nat.mod (m / 2 ^ t) 2) 1 with
  | true => have := Nat.eq_of_beq_eq_true h; simp; exact this
  | false => have h3 : ¬ (m / 2 ^ t) % 2 = 1 := Nat.ne_of_beq_eq_false h; simp; omega
theorem tB_zero (t : Nat) : tB 0 t = false := by rw [tB_eq]; simp
theorem tB_lor (a b t : Nat) : tB (Nat.lor a b) t = (tB a t || tB b t) := by
  rw [tB_eq, tB_eq, tB_eq]; exact Nat.testBit_or a b t
theorem tB_bit (i t : Nat) : tB (Nat.shiftLeft 1 i) t = (i == t) := by
  rw [tB_eq]
  show (1 <<< i).testBit t = _
  rw [Nat.shiftLeft_eq, Nat.one_mul, Nat.testBit_two_pow]
  rfl
theorem tB_sub {a b t : Nat} (h : Nat.beq (Nat.lor a b) a = true) (hb : tB b t = true) : tB a t = true := by
  rw [← Nat.eq_of_beq_eq_true h, tB_lor, hb, Bool.or_true]
theorem tB_sub' {a b t : Nat} (h : Nat.beq (Nat.lor a b) b = true) (ha : tB a t = true) : tB b t = true := by
  rw [← Nat.eq_of_beq_eq_true h, tB_lor, ha, Bool.true_or]
theorem tB_all {n t : Nat} : tB (2 ^ n - 1) t = decide (t < n) := by rw [tB_eq, Nat.testBit_two_pow_sub_one]

/-! ### what is ahead of what -/
def ahead (bms : List Nat) (i x : Nat) : Bool := tB (bms.getD i 0) x
theorem maskOf_ok (bms : List Nat) (o : Oper) (x : Nat) : tB (maskOf bms o) x = true ↔ ∃ e ∈ o.after, Region.binds .any e = true ∧ (x = e.on ∨ ahead bms e.on x = true) := by
  have key : ∀ (l : List Edge) (s : Nat), tB (l.foldl (fun s e => ifB (Region.binds .any e) (Nat.lor s (Nat.lor (Nat.shiftLeft 1 e.on) (bms.getD e.on 0))) s) s) x = true ↔ tB s x = true ∨ ∃ e ∈ l, Region.binds .any e = true ∧ (x = e.on ∨ ahead bms e.on x = true) := by
    intro l
    induction l with
    | nil => intro s; simp
    | cons e l ih =>
      intro s
      rw [List.foldl_cons, ih]
      cases hb : Region.binds .any e with
      | false => simp [hb]
      | true =>
        simp only [ifB_true, tB_lor, tB_bit, Bool.or_eq_true, beq_iff_eq, List.mem_cons, exists_eq_or_imp, hb, true_and, ahead]
        constructor
        · rintro ((h | h | h) | h)
          · exact .inl h
          · exact .inr (.inl (.inl h.symm))
          · exact .inr (.inl (.inr h))
          · exact .inr (.inr h)
        · rintro (h | (h | h) | h)
          · exact .inl (.inl h)
          · exact .inl (.inr (.inl h.symm))
          · exact .inl (.inr (.inr h))
          · exact .inr h
  have := key o.after.toList 0
  rw [tB_zero] at this
  unfold maskOf
  rw [this]
  simp

/-- what holds of a plan -/
structure Good (n : Nat) (pl : List DI) : Prop where
  at_ : ∀ l1 d l2, pl = l1 ++ d :: l2 → (∀ d' ∈ l1, d'.ix ≠ d.ix) ∧ (∀ x, tB d.m x = true → ∃ d' ∈ l1, d'.ix = x) ∧ (∀ d' ∈ l1, d'.cl.isEff = true → tB d.m d'.ix = true)
  all : ∀ i, i < n → ∃ d ∈ pl, d.ix = i
theorem good_from {n : Nat} : ∀ (l : List DI) (seen effs : Nat) (pre : List DI), (∀ x, tB seen x = true ↔ ∃ d ∈ pre, d.ix = x) → (∀ x, tB effs x = true ↔ ∃ d ∈ pre, d.cl.isEff = true ∧ d.ix = x) → goodFrom n l seen effs = true →
    (∀ l1 d l2, l = l1 ++ d :: l2 → (∀ d' ∈ pre ++ l1, d'.ix ≠ d.ix) ∧ (∀ x, tB d.m x = true → ∃ d' ∈ pre ++ l1, d'.ix = x) ∧ (∀ d' ∈ pre ++ l1, d'.cl.isEff = true → tB d.m d'.ix = true)) ∧ (∀ i, i < n → ∃ d ∈ pre ++ l, d.ix = i) := by
  intro l
  induction l with
  | nil =>
    intro seen effs pre hs he h
    refine ⟨fun l1 d l2 e => by simp at e, fun i hi => ?_⟩
    simp only [goodFrom] at h
    rw [List.append_nil]
    refine (hs i).1 ?_
    rw [Nat.eq_of_beq_eq_true h, tB_all]; simpa using hi
  | cons d l ih =>
    intro seen effs pre hs he h
    simp only [goodFrom, Bool.and_eq_true] at h
    obtain ⟨h1, h2, h3, h4⟩ := h
    have hs' : ∀ x, tB (Nat.lor seen (Nat.shiftLeft 1 d.ix)) x = true ↔ ∃ d' ∈ pre ++ [d], d'.ix = x := fun x => by
      rw [tB_lor, tB_bit, Bool.or_eq_true, hs x]; simp [or_and_right, exists_or]
    have he' : ∀ x, tB (ifB d.cl.isEff (Nat.lor effs (Nat.shiftLeft 1 d.ix)) effs) x = true ↔ ∃ d' ∈ pre ++ [d], d'.cl.isEff = true ∧ d'.ix = x := fun x => by
      cases hc : d.cl.isEff with
      | false => rw [ifB_false, he x]; simp [or_and_right, exists_or, hc]
      | true => rw [ifB_true, tB_lor, tB_bit, Bool.or_eq_true, he x]; simp [or_and_right, exists_or, hc]
    obtain ⟨q1, q2⟩ := ih _ _ (pre ++ [d]) hs' he' h4
    refine ⟨fun l1 d1 l2 e => ?_, by simpa using q2⟩
    cases l1 with
    | nil =>
      simp at e
      obtain ⟨rfl, rfl⟩ := e
      refine ⟨fun d' hd' hx => ?_, fun x hx => ?_, fun d' hd' hc => ?_⟩
      · have : tB seen d.ix = true := (hs _).2 ⟨d', by simpa using hd', hx⟩
        rw [this] at h1; simp at h1
      · obtain ⟨d', a, b⟩ := (hs x).1 (tB_sub h2 hx); exact ⟨d', by simpa using a, b⟩
      · exact tB_sub' h3 ((he _).2 ⟨d', by simpa using hd', hc, rfl⟩)
    | cons c l1 =>
      simp at e
      obtain ⟨rfl, rfl⟩ := e
      simpa using q1 l1 d1 l2 rfl
theorem good_ok {n : Nat} {pl : List DI} (h : goodFrom n pl 0 0 = true) : Good n pl := by
  obtain ⟨a, b⟩ := good_from (n := n) pl 0 0 [] (fun x => by simp [tB_zero]) (fun x => by simp [tB_zero]) h
  exact ⟨by simpa using a, by simpa using b⟩
theorem Good.ix_inj {n : Nat} {pl : List DI} (g : Good n pl) {d d' : DI} (h : d ∈ pl) (h' : d' ∈ pl) (e : d.ix = d'.ix) : d = d' := by
  obtain ⟨l1, l2, rfl⟩ := List.append_of_mem h
  rw [List.mem_append, List.mem_cons] at h'
  rcases h' with h' | h' | h'
  · exact absurd e.symm ((g.at_ l1 d l2 rfl).1 d' h')
  · exact h'.symm
  · obtain ⟨m1, m2, rfl⟩ := List.append_of_mem h'
    exact absurd e ((g.at_ (l1 ++ d :: m1) d' m2 (by simp)).1 d (by simp))

/-- where what is planned comes from -/
theorem plan_mem {E : Env} {l : List Oper} {d : DI} (h : d ∈ plan E l) : ∃ p ∈ l.zipIdx, d = mkDI E (masks l) (litOf l) (sealer l) p := by
  have key : ∀ (is : List (DI × Nat)) (es : List Nat) (k : Nat), d ∈ planFrom is es k → ∃ p ∈ is, p.1 = d := by
    intro is es k
    induction k with
    | zero => intro h; exact absurd (show d ∈ ([] : List DI) from h) (by simp)
    | succ k ih =>
      intro h
      have h' : d ∈ (is.filter fun p => Bool.not p.1.cl.isEff && Nat.beq p.2 (es.length - k)).map (·.1) ++ ((es[es.length - k]?).toList.flatMap fun e => (is[e]?).toList.map (·.1)) ++ planFrom is es k := h
      rw [List.mem_append, List.mem_append] at h'
      rcases h' with (h' | h') | h'
      · obtain ⟨p, a, b⟩ := List.mem_map.1 h'
        exact ⟨p, (List.mem_filter.1 a).1, b⟩
      · obtain ⟨e, a, b⟩ := List.mem_flatMap.1 h'
        obtain ⟨p, c, e2⟩ := List.mem_map.1 b
        simp at c
        exact ⟨p, List.mem_of_getElem? c, e2⟩
      · exact ih h'
  obtain ⟨p, a, b⟩ := key (infos E l) (effsOf E l) ((effsOf E l).length + 1) h
  obtain ⟨q, c, e⟩ := List.mem_map.1 (show p ∈ l.zipIdx.map _ from a)
  exact ⟨q, c, by rw [← b, ← e]⟩
theorem plan_at {E : Env} {l : List Oper} {d : DI} (h : d ∈ plan E l) : l[d.ix]? = some d.o ∧ d.m = (masks l).getD d.ix 0 := by
  obtain ⟨⟨o, i⟩, a, rfl⟩ := plan_mem h
  exact ⟨by have := List.mem_zipIdx_iff_getElem?.1 a; simpa [mkDI] using this, rfl⟩
end Go.Ev
namespace Go.Ev
set_option linter.unusedVariables false
set_option linter.unusedSimpArgs false

theorem r1_any {r : R1} {h h' : Heap} {v : AVal} (e : r1 h r = .ok v h') (h2 : Heap) : r1 h2 r = .ok v h2 := by
  obtain ⟨e1, _⟩ := r1_eq e
  rw [e1]; rfl
/-- does a call of a built-in function look at the heap? -/
theorem bi_pure {E : Env} {b : Builtin} (hb : b = .max ∨ b = .min) {ts : List TypeId} {args : List Operand} {call : CallF} {tm : Loc} {h h' : Heap} {v : AVal} (e : builtinF E b ts args call tm h = .ok v h') (h2 : Heap) : builtinF E b ts args call tm h2 = .ok v h2 := by
  cases ts with
  | nil => simp [builtinF, noF] at e
  | cons st r =>
    simp only [builtinF] at e ⊢
    cases ha : argOk E b r with
    | false => rw [ha] at e; simp [noF] at e
    | true =>
      rw [ha] at e
      simp only [ifB_true] at e ⊢
      rcases args with _ | ⟨x, _ | ⟨y, _ | ⟨z, xs⟩⟩⟩
      · simp [noF] at e
      · rcases hb with rfl | rfl <;> simp [bi1] at e
      · rcases hb with rfl | rfl <;> exact r1_any e h2
      · simp [noF] at e
theorem bi_len {E : Env} {ts : List TypeId} {args : List Operand} {call : CallF} {tm : Loc} {h h' : Heap} {v : AVal} (e : builtinF E .len ts args call tm h = .ok v h') : h' = h := by
  cases ts with
  | nil => simp [builtinF, noF] at e
  | cons st r =>
    simp only [builtinF] at e
    cases ha : argOk E .len r with
    | false => rw [ha] at e; simp [noF] at e
    | true =>
      rw [ha] at e
      simp only [ifB_true] at e
      rcases args with _ | ⟨x, _ | ⟨y, _ | ⟨z, xs⟩⟩⟩
      · simp [noF] at e
      · exact (r1_eq e).2
      · simp [bi2] at e
      · simp [noF] at e

theorem pure_any {E : Env} {o : Op} (hcl : clsOf E o = .pure) {call : CallF} {tm : Loc} {h h' : Heap} {v : AVal} (e : opF E o call tm h = .ok v h') (h2 : Heap) : opF E o call tm h2 = .ok v h2 := by
  cases o <;> simp only [clsOf] at hcl <;> try (simp at hcl; done)
  case move x => obtain ⟨rfl, _⟩ := R2.ok_inj e; rfl
  case assign x => obtain ⟨rfl, _⟩ := R2.ok_inj e; rfl
  case pick c a b => exact r1_any e h2
  case build t ps =>
    obtain ⟨x, hx, e⟩ := onO_F e
    obtain ⟨z, hz, e⟩ := onL_F e
    simp only [opF, hx, hz, onO_some, RL.on_ok]
    exact r1_any e h2
  case nilCheck x => exact r1_any e h2
  case binOp => exact r1_any e h2
  case unOp => exact r1_any e h2
  case convert s d x =>
    obtain ⟨c, hc, e⟩ := onO_F e
    simp only [opF, hc, onO_some]
    rw [hc] at hcl
    cases c <;> simp only [] at hcl <;> try (simp at hcl; done)
    all_goals
      cases hx : opnd x tm <;> simp only [convA, hx] at e ⊢ <;> try (simp at e; done)
    · exact r1_any e h2
    · obtain ⟨h1, e⟩ := ifB_eq e (by simp)
      obtain ⟨rfl, _⟩ := R2.ok_inj e
      rw [h1]; rfl
    · split at e <;> try (simp at e; done)
      obtain ⟨h1, e⟩ := ifB_eq e (by simp)
      obtain ⟨rfl, _⟩ := R2.ok_inj e
      rw [h1]; rfl
    · obtain ⟨rfl, _⟩ := R2.ok_inj e; rfl
    · obtain ⟨rfl, _⟩ := R2.ok_inj e; rfl
  case makeInterface t x =>
    obtain ⟨ti, hti, e⟩ := onO_F e
    simp only [opF, hti, onO_some]
    cases hd : und E t <;> rw [hd] at e <;> simp only [noF] at e ⊢ <;> try (simp at e; done)
    all_goals
      obtain ⟨rfl, _⟩ := R2.ok_inj e; rfl
  case makeFunc fn first cap =>
    cases fn <;> simp only [opF, noF] at e ⊢ <;> try (simp at e; done)
    obtain ⟨h1, e⟩ := ifB_F e
    obtain ⟨rfl, _⟩ := R2.ok_inj e
    rw [h1]; rfl
  case slice t x lo hi mx =>
    obtain ⟨h1, e⟩ := ifB_F e
    simp only [opF, h1, ifB_true]
    exact r1_any e h2
  case fieldAddr s x f =>
    obtain ⟨fd, hfd, e⟩ := onO_F e
    obtain ⟨ti, hti, e⟩ := onO_F e
    simp only [opF, hfd, hti, onO_some]
    cases hz : Nat.beq ti.2 0 with
    | true => rw [hz] at e; simp [noF] at e
    | false => rw [hz] at e; exact r1_any e h2
  case field s x f =>
    obtain ⟨fd, hfd, e⟩ := onO_F e
    obtain ⟨ti, hti, e⟩ := onO_F e
    simp only [opF, hfd, hti, onO_some]
    exact r1_any e h2
  case indexAddr => exact r1_any e h2
  case index => exact r1_any e h2
  case extract => exact r1_any e h2
  case call c =>
    simp only [opF, callF] at e ⊢
    cases hcal : c.callee <;> rw [hcal] at e hcl <;> simp only [] at e hcl ⊢ <;> try (simp at hcl; done)
    rename_i b
    refine bi_pure ?_ e h2
    cases b <;> simp at hcl <;> simp

theorem read_same {E : Env} {o : Op} (hcl : clsOf E o = .read) {call : CallF} {tm : Loc} {h h' : Heap} {v : AVal} (e : opF E o call tm h = .ok v h') : h' = h := by
  cases o <;> simp only [clsOf] at hcl <;> try (simp at hcl; done)
  case load t a => obtain ⟨ti, hti, e⟩ := onO_F e; exact (r1_eq e).2
  case convert s d x =>
    obtain ⟨c, hc, e⟩ := onO_F e
    rw [hc] at hcl
    cases c <;> simp only [] at hcl <;> try (simp at hcl; done)
    cases hx : opnd x tm <;> simp only [convA, hx] at e <;> try (simp at e; done)
    · exact (R2.ok_inj e).2.symm
    · obtain ⟨c, hc, h1⟩ := RL.on_eq e (by simp)
      exact (r1_eq h1).2
  case lookup t x k ok =>
    obtain ⟨mt, hmt, e⟩ := onO_F e
    obtain ⟨hk, e⟩ := ifB_eq e (by simp)
    exact (r1_eq e).2
  case makeFunc fn _ _ => cases fn <;> simp at hcl
  case call c =>
    simp only [opF, callF] at e
    cases hcal : c.callee <;> rw [hcal] at e hcl <;> simp only [] at e hcl <;> try (simp at hcl; done)
    rename_i b
    cases b <;> simp at hcl
    exact bi_len e

/-! ### a new block that is made late -/
/-- is the block still as it was made? -/
def SameBlk (bl : ABlk) (K : Heap) (b : Nat) : Prop :=
  match bl with
  | .cells e s t => ∃ l t', K.blk b = some (.cells e s t') ∧ s = l.length ∧ loadN t s 0 = .ok l ∧ loadN t' s 0 = .ok l
  | .map es c => es = [] ∧ c = 0 ∧ K.blk b = some (.map [] 0)
  | _ => False
def LateRes (P : Program) (s : Sem Value) (μ : Mu) (K : Heap) (w : World) (id : Nat) (v : AVal) : Prop :=
  ∃ v' ob sz, s.run P w = .ok v' { w with heap := w.heap.push ob } ∧ V (bearM μ id (.live w.heap.size 0 sz)) v v' ∧
    ∀ x, K.blk id = some x → BR (bearM μ id (.live w.heap.size 0 sz)) { w with heap := w.heap.push ob } (.live w.heap.size 0 sz) x

section
variable {P : Program} {E : Env} (hE : EnvOK P E) {μ : Mu} {K : Heap} {w : World} {id : Nat} (hu : μ id = .unborn)
include hu
theorem late_cells {e : TypeId} {l : List AVal} {cs : Array Value} (hl : VL μ l cs.toList) (hc : ∀ y ∈ cs.toList, IsCell y) (hs : SameBlk (.cells e l.length (fillT l 0 .leaf)) K id) {x : ABlk} (hx : K.blk id = some x) :
    BR (bearM μ id (.live w.heap.size 0 cs.size)) { w with heap := w.heap.push (.cells cs e) } (.live w.heap.size 0 cs.size) x := by
  obtain ⟨l', t', h1, h2, h3, h4⟩ := hs
  rw [hx] at h1; cases h1
  have hlen := hl.length
  simp at hlen
  obtain ⟨q1, q2⟩ := loadN_ok h3
  obtain ⟨r1, r2⟩ := loadN_ok h4
  refine ⟨⟨cs, (0, 0), by simp, rfl, fun j _ => by simp, fun i v hi hv => ?_⟩, by omega⟩
  obtain ⟨y, hy⟩ : ∃ y, l'[i]? = some y := ⟨l'[i]'(by omega), by simp [h2 ▸ hi]⟩
  have a1 := q2 i y hy
  have a2 := r2 i y hy
  rw [Nat.zero_add] at a1 a2
  rw [hv] at a2; cases a2
  rw [fillT_get, if_pos (by omega)] at a1
  obtain ⟨v', b1, b2, b3⟩ := hl.all hc (by simpa using a1)
  exact ⟨v', by simpa using b1, b2.mono (Ext.bear _ hu), b3⟩
theorem alloc_late {e : TypeId} {z : List AVal} (hE : EnvOK P E) (hz : cells0 E e = .ok z) (hs : SameBlk (.cells e z.length (fillT z 0 .leaf)) K id) : LateRes P (Instr.alloc e true (.tuple #[])) μ K w id (.ptr id 0) := by
  obtain ⟨i, zv, _, _, h1, h2, h3⟩ := zero_ok (μ := μ) hE (w := w) hz
  refine ⟨.pointer (some ⟨w.heap.size, 0, none⟩), .cells zv.cells e, zv.cells.size, ?_, ?_, fun x hx => late_cells hu h2 h3 hs hx⟩
  · simp only [Instr.alloc, Sem.run_bind, h1, Result.andThen_ok, newVar, newRow, run_newObj, Sem.run_pure]
  · have := V.ptr (μ := bearM μ id (.live w.heap.size 0 zv.cells.size)) id 0 w.heap.size 0 zv.cells.size (bear_same _ _ _)
    simpa using this
theorem box_late {e : TypeId} {x : AVal} {x' : Value} {l : List AVal} (hl : cellsL x = .ok l) (hx : V μ x x') (hs : SameBlk (.cells e l.length (fillT l 0 .leaf)) K id) : LateRes P (Instr.box e x') μ K w id (.ptr id 0) := by
  obtain ⟨h2, h3⟩ := cellsL_ok hl hx
  refine ⟨.pointer (some ⟨w.heap.size, 0, none⟩), .cells x'.cells e, x'.cells.size, ?_, ?_, fun x hx => late_cells hu h2 h3 hs hx⟩
  · simp only [Instr.box, Sem.run_bind, Result.andThen_ok, newVar, newRow, run_newObj, Sem.run_pure]
  · have := V.ptr (μ := bearM μ id (.live w.heap.size 0 x'.cells.size)) id 0 w.heap.size 0 x'.cells.size (bear_same _ _ _)
    simpa using this
omit hu in
theorem makeMap_late {t : TypeId} (hs : SameBlk (.map [] 0) K id) : LateRes P (Instr.makeMap t none) μ K w id (.map id) := by
  refine ⟨.map (some w.heap.size), .map #[] 0, 0, rfl, .map _ _ 0 0 (bear_same _ _ _), fun x hx => ?_⟩
  obtain ⟨_, _, h1⟩ := hs
  rw [hx] at h1; cases h1
  exact ⟨#[], by simp, .nil⟩
theorem buildSlice_late (hE : EnvOK P E) {t e : TypeId} {ag : Bool} {sz len : Nat} {z l : List AVal} {ps : List (Nat × AVal)} {qs : Array (Nat × Value)} (he : elemO E t = some (e, ag, sz)) (hz : cells0 E e = .ok z) (hzl : z.length = sz)
    (hsm : len * sz ≤ 1048576) (h4 : fillP (fun i => some (i * sz, sz)) ps (repL z len) = .ok l) (hq : PR μ ps qs.toList) (hs : SameBlk (.cells e l.length (fillT l 0 .leaf)) K id) : LateRes P (Instr.buildSlice t len qs) μ K w id (.slice id 0 len (.exact len)) := by
  obtain ⟨hu', hty⟩ := elemO_ok hE he
  obtain ⟨i, zv, _, _, h1, h2, h3⟩ := zero_ok (μ := μ) hE (w := w) hz
  have hzs : sz = zv.cells.size := by have := h2.length; simp at this; omega
  have hrow := rep_range zv.cells len sz hzs
  obtain ⟨q1, q2⟩ := repL_ok (μ := μ) h2 h3 len
  rw [← hrow] at q1 q2
  obtain ⟨c, r1, r2, r3⟩ := fill_ok ps qs.toList _ _ l hq q1 q2 h4
  refine ⟨.slice (some ⟨w.heap.size, 0, none⟩) len len, .cells c e, c.size, ?_, ?_, fun x hx => late_cells hu r2 r3 hs hx⟩
  · simp only [Instr.buildSlice, Sem.run_bind, run_underlying hu', Result.andThen_ok, run_sizeOf_ok hE hty]
    rw [if_neg (by omega)]
    by_cases hz0 : len * sz = 0
    · have e0 : (Array.map (fun i => (#[] : Array Value)[i % (#[] : Array Value).size]!) (Array.range 0)) = Array.map (fun i => zv.cells[i % zv.cells.size]!) (Array.range 0) := by simp
      rw [hz0] at r1
      simp only [hz0, if_true, pure_bind]
      rw [e0, r1]; rfl
    · simp only [hz0, if_false, Sem.run_bind, h1, Result.andThen_ok, Sem.run_pure, r1]; rfl
  · exact .sliceX id 0 len len w.heap.size 0 c.size 0 (bear_same _ _ _) (Nat.le_refl _) (.inr rfl)
end
end Go.Ev
namespace Go.Ev
set_option linter.unusedVariables false
set_option linter.unusedSimpArgs false

theorem new_late {P : Program} {E : Env} (hE : EnvOK P E) {o : Oper} (hcl : clsOf E o.op = .new) {call : CallF} {tm : Loc} {h0 h1 : Heap} {v : AVal} (e : opF E o.op call tm h0 = .ok v h1) :
    ∃ bl, h1 = h0.add bl ∧ ((∃ e s t, bl = .cells e s t ∧ ((∃ n, v = .ptr h0.next n) ∨ ∃ n l c, v = .slice h0.next n l c)) ∨ (bl = .map [] 0 ∧ v = .map h0.next)) ∧
      ∀ {μ : Mu} {K : Heap} {w : World} {a : Act}, μ h0.next = .unborn → SameBlk bl K h0.next → (∀ x ∈ o.op.operands, V μ (opnd x tm) (a.eval x)) →
        ∃ s : Sem Value, (execOp a.eval o) = (do pure (Next.value (← s))) ∧ LateRes P s μ K w h0.next v := by
  cases ho : o.op <;> rw [ho] at hcl e <;> simp only [clsOf] at hcl <;> try (simp at hcl; done)
  case alloc t =>
    obtain ⟨z, hz, e⟩ := onL_F e
    rw [newCells_eq] at e
    obtain ⟨rfl, rfl⟩ := R2.ok_inj e
    exact ⟨_, rfl, .inl ⟨_, _, _, rfl, .inl ⟨_, rfl⟩⟩, fun hu hs _ => ⟨Instr.alloc t true (.tuple #[]), by simp [execOp, ho], alloc_late hu hE hz hs⟩⟩
  case box t x =>
    obtain ⟨l, hl, e⟩ := RL.on_eq e (by simp)
    rw [newCells_eq] at e
    obtain ⟨rfl, rfl⟩ := R2.ok_inj e
    exact ⟨_, rfl, .inl ⟨_, _, _, rfl, .inl ⟨_, rfl⟩⟩, fun {μ K w a} hu hs ha => ⟨Instr.box t (a.eval x), by simp [execOp, ho], box_late hu hl (ha x (by simp [Op.operands])) hs⟩⟩
  case buildSlice t len ps =>
    obtain ⟨el, he, e⟩ := onO_F e
    obtain ⟨z, hz, e⟩ := onL_F e
    obtain ⟨hb, e⟩ := ifB_F e
    rw [Bool.and_eq_true, ble_true, beq_true] at hb
    obtain ⟨l, hl, e⟩ := RL.on_eq e (by simp)
    rw [newCells_eq] at e
    obtain ⟨rfl, rfl⟩ := R2.ok_inj e
    refine ⟨_, rfl, .inl ⟨_, _, _, rfl, .inr ⟨_, _, _, rfl⟩⟩, fun {μ K w a} hu hs ha => ⟨Instr.buildSlice t len (ps.map fun (i, x) => (i, a.eval x)), by simp [execOp, ho], ?_⟩⟩
    refine buildSlice_late hu hE (ag := el.2.1) he hz hb.2 hb.1 hl ?_ hs
    have := parts_on (μ := μ) (tm := tm) (a := a) ps.toList fun p hp => ha p.2 (by simp [Op.operands]; exact ⟨p.1, Array.mem_def.2 (by simpa using hp)⟩)
    simpa using this
  case convert s d x =>
    cases hk : convK E s d with
    | none => rw [hk] at hcl; simp at hcl
    | some c => rw [hk] at hcl; cases c <;> simp at hcl
  case makeFunc fn _ _ => cases fn <;> simp at hcl
  case makeMap t r =>
    have hm : makeMapA h0 = .ok v h1 ∧ ∀ (ρ : Operand → Value), (∀ x, r = some x → ∃ k n, ρ x = .int k n) → (Instr.makeMap t (r.map ρ) = Instr.makeMap t none ∨ ∀ w, (Instr.makeMap t (r.map ρ)).run P w = (Instr.makeMap t none).run P w) := by
      cases r with
      | none => exact ⟨e, fun _ _ => .inl rfl⟩
      | some x =>
        simp only [opF, onO_some] at e
        cases hd : und E t <;> rw [hd] at e <;> simp only [noF] at e <;> try (simp at e; done)
        obtain ⟨h1, e⟩ := ifB_eq e (by simp)
        refine ⟨e, fun ρ hρ => .inr fun w => ?_⟩
        obtain ⟨k, n, hk⟩ := hρ x rfl
        simp [Instr.makeMap, run_underlying (und_ok hE hd (by simp)), asInt, asIntOf, hk]
    have hint : ∀ (μ : Mu) (a : Act), (∀ x ∈ (Op.makeMap t r).operands, V μ (opnd x tm) (a.eval x)) → ∀ x, r = some x → ∃ k n, a.eval x = .int k n := by
      intro μ a ha x hx
      subst hx
      simp only [opF, onO_some] at e
      cases hd : und E t <;> rw [hd] at e <;> simp only [noF] at e <;> try (simp at e; done)
      obtain ⟨h1, e⟩ := ifB_eq e (by simp)
      have hv := ha x (by simp [Op.operands])
      generalize a.eval x = y at hv
      cases hy : opnd x tm <;> rw [hy] at h1 hv <;> simp [isInt] at h1
      cases hv
      exact ⟨_, _, rfl⟩
    obtain ⟨hm, hrun⟩ := hm
    simp only [makeMapA, forceN_eq] at hm
    obtain ⟨rfl, rfl⟩ := R2.ok_inj hm
    refine ⟨_, rfl, .inr ⟨rfl, rfl⟩, fun {μ K w a} hu hs ha => ⟨Instr.makeMap t (r.map a.eval), by simp [execOp, ho], ?_⟩⟩
    obtain ⟨v', ob, sz, q1, q2, q3⟩ := makeMap_late (P := P) (t := t) (w := w) hs
    refine ⟨v', ob, sz, ?_, q2, q3⟩
    rcases hrun a.eval (hint μ a ha) with h2 | h2
    · rw [h2]; exact q1
    · rw [h2]; exact q1
  case call c =>
    split at hcl <;> simp at hcl

theorem pendsOk_cons (call : CallF) (h : Heap) (p : Pend) (l : List Pend) : pendsOk call h (p :: l) = ifB (pendOk call h p) (pendsOk call h l) false := rfl
theorem pendsOk_mem {call : CallF} {h : Heap} : ∀ {l : List Pend}, pendsOk call h l = true → ∀ p ∈ l, pendOk call h p = true := by
  intro l
  induction l with
  | nil => intro _ p hp; simp at hp
  | cons q l ih =>
    intro hl p hp
    rw [pendsOk_cons] at hl
    obtain ⟨h1, h2⟩ := ifB_eq hl (by simp)
    rcases List.mem_cons.1 hp with rfl | hp
    · exact h1
    · exact ih h2 p hp
theorem keepP_cons (m : Nat) (p : Pend) (l : List Pend) : keepP m (p :: l) = ifB (tB m p.ix) (keepP m l) (p :: keepP m l) := rfl
theorem keepP_mem {m : Nat} {p : Pend} : ∀ {l : List Pend}, p ∈ l → tB m p.ix = false → p ∈ keepP m l := by
  intro l
  induction l with
  | nil => intro h; simp at h
  | cons q l ih =>
    intro h hm
    rw [keepP_cons]
    rcases List.mem_cons.1 h with rfl | h
    · rw [hm]; simp
    · cases tB m q.ix with
      | true => exact ih h hm
      | false => exact List.mem_cons_of_mem _ (ih h hm)
/-- what waits of a new block says that it is still as it was -/
theorem pend_new {d : DI} {f : F} {tm : Loc} {v : AVal} {h0 h1 : Heap} {bl : ABlk} {ps ps' : List Pend} (hcl : d.cl = .new) (hb : h1 = h0.add bl) (hv : (∃ e s t, bl = .cells e s t ∧ ((∃ n, v = .ptr h0.next n) ∨ ∃ n l c, v = .slice h0.next n l c)) ∨ (bl = .map [] 0 ∧ v = .map h0.next))
    (h : pendOf d f tm v h1 ps = some ps') : ∃ p, ps' = p :: ps ∧ p.ix = d.ix ∧ ∀ call K, pendOk call K p = true → SameBlk bl K h0.next := by
  have hblk : h1.blk h0.next = some bl := by rw [hb, Heap.blk_add, if_pos rfl]
  unfold pendOf at h
  rw [hcl] at h
  rcases hv with ⟨e, s, t, rfl, hv⟩ | ⟨rfl, rfl⟩
  · have key : onCells none h1 h0.next (fun e s t => (loadN t s 0).on none fun l => some (Pend.nw d.ix h0.next e l :: ps)) = some ps' := by
      rcases hv with ⟨n, rfl⟩ | ⟨n, l, c, rfl⟩ <;> exact h
    obtain ⟨e', s', t', h2, h3⟩ := blk_cells key (by simp)
    rw [hblk] at h2; cases h2
    obtain ⟨l, hl, h4⟩ := RL.on_eq h3 (by simp)
    obtain rfl := (loadN_ok hl).1
    simp only [Option.some.injEq] at h4
    refine ⟨_, h4.symm, rfl, fun call K hk => ?_⟩
    simp only [pendOk] at hk
    obtain ⟨e2, s2, t2, h5, h6⟩ := blk_cells hk (by simp)
    rw [Bool.and_eq_true, Bool.and_eq_true, beq_true, beq_true] at h6
    obtain ⟨⟨rfl, rfl⟩, h7⟩ := h6
    obtain ⟨m, hm, h8⟩ := RL.on_eq h7 (by simp)
    have := sameL_eq _ _ h8
    subst this
    exact ⟨l, t2, h5, rfl, hl, hm⟩
  · simp only [Option.some.injEq] at h
    refine ⟨_, h.symm, rfl, fun call K hk => ?_⟩
    simp only [pendOk, onMap] at hk
    cases hx : K.blk h0.next with
    | none => rw [hx] at hk; simp at hk
    | some x =>
      rw [hx] at hk
      cases x <;> simp only [] at hk <;> try (simp at hk; done)
      rename_i es c
      cases es with
      | nil => simp at hk; subst hk; exact ⟨rfl, rfl, hx⟩
      | cons a b => simp at hk
theorem sameE_eq : ∀ (l m : List AEnt), sameE l m = true → l = m := by
  intro l
  induction l with
  | nil => intro m h; cases m with | nil => rfl | cons a b => exact absurd h (by simp [sameE])
  | cons e l ih =>
    intro m h
    cases m with
    | nil => exact absurd h (by simp [sameE])
    | cons f m =>
      have h' : (AVal.same e.key f.key && (AVal.same e.val f.val && (Nat.beq e.born f.born && sameE l m))) = true := h
      rw [Bool.and_eq_true, Bool.and_eq_true, Bool.and_eq_true, beq_true] at h'
      obtain ⟨a, b, c, d⟩ := h'
      have q := ih m d
      obtain ⟨k, v, n⟩ := e
      obtain ⟨k', v', n'⟩ := f
      simp only at a b c
      rw [same_eq _ _ a, same_eq _ _ b, c, q]

/-! ### what was planned -/
structure Rec where
  d : DI
  v : AVal
  tm : Loc
  id : Option Nat
  ent : AEnt
noncomputable def putR (rs : List Rec) (tm : Loc) : Loc := rs.foldl (fun tm r => putO r.d.o.dst r.v tm) tm
theorem putR_cons (r : Rec) (rs : List Rec) (tm : Loc) : putR (r :: rs) tm = putR rs (putO r.d.o.dst r.v tm) := rfl
theorem putR_append (l m : List Rec) (tm : Loc) : putR (l ++ m) tm = putR m (putR l tm) := by simp [putR]
theorem putO_get (d : Option Tmp) (v : AVal) (tm : Loc) (t : Nat) : (putO d v tm).get t = if d = some t then some v else tm.get t := by
  cases d with
  | none => simp [putO]
  | some d => 
    show (Loc.put d v tm).get t = _
    rw [Loc.get_put]
    by_cases h : t = d
    · simp [h]
    · rw [if_neg h, if_neg (by simpa using fun e => h e.symm)]
theorem putR_congr {t : Nat} (p q : Rec → Bool) : ∀ (R : List Rec) (x y : Loc), (∀ r ∈ R, r.d.o.dst = some t → p r = q r) → x.get t = y.get t → (putR (R.filter p) x).get t = (putR (R.filter q) y).get t := by
  intro R
  induction R with
  | nil => intro x y _ h; exact h
  | cons r R ih =>
    intro x y hr h
    have h0 := hr r (by simp)
    have hR : ∀ r ∈ R, r.d.o.dst = some t → p r = q r := fun r h' => hr r (by simp [h'])
    rw [List.filter_cons, List.filter_cons]
    by_cases hd : r.d.o.dst = some t
    · rw [h0 hd]
      cases q r
      · exact ih x y hR h
      · simp only [if_true, putR_cons]
        exact ih _ _ hR (by rw [putO_get, putO_get, if_pos hd, if_pos hd])
    · have e1 : ∀ z : Loc, (putO r.d.o.dst r.v z).get t = z.get t := fun z => by rw [putO_get, if_neg hd]
      cases p r <;> cases q r <;> simp only [if_true, Bool.false_eq_true, if_false, putR_cons]
      · exact ih x y hR h
      · exact ih x _ hR (by rw [e1]; exact h)
      · exact ih _ y hR (by rw [e1]; exact h)
      · exact ih _ _ hR (by rw [e1, e1]; exact h)
theorem filter_tt (R : List Rec) : R.filter (fun _ => true) = R := by simp
theorem putR_skip {t : Nat} {R : List Rec} {x : Loc} (p : Rec → Bool) (h : ∀ r ∈ R, r.d.o.dst = some t → p r = false) : (putR (R.filter p) x).get t = x.get t := by
  have := putR_congr p (fun _ => false) R x x (fun r hr hd => by rw [h r hr hd]) rfl
  rw [this, List.filter_eq_nil_iff.2 (by simp)]; rfl
end Go.Ev
namespace Go.Ev
set_option linter.unusedVariables false
set_option linter.unusedSimpArgs false

theorem any_beq {l : List Nat} {t : Nat} : l.any (Nat.beq t) = true ↔ t ∈ l := by
  rw [List.any_eq_true]
  exact ⟨fun ⟨x, hx, he⟩ => by rw [Nat.eq_of_beq_eq_true he]; exact hx, fun h => ⟨t, h, Nat.beq_refl t⟩⟩
theorem apart_ok {l : List Oper} {x y : Oper} (h : apartB l x y = true) : (∀ t, x.dst = some t → t ∉ looks l y ∧ y.dst ≠ some t) ∧ (∀ t, y.dst = some t → t ∉ looks l x) := by
  unfold apartB at h
  rw [Bool.and_eq_true] at h
  refine ⟨fun t ht => ?_, fun t ht hm => ?_⟩
  · have h1 := h.1
    rw [ht] at h1
    simp only [onO_some, Bool.and_eq_true, Bool.not_eq_true'] at h1
    refine ⟨fun hm => by rw [any_beq.2 hm] at h1; simp at h1, fun hy => ?_⟩
    rw [hy] at h1
    simp only [onO_some, Bool.not_eq_true', Nat.beq_refl] at h1
    simp at h1
  · have h2 := h.2
    rw [ht] at h2
    simp only [onO_some, Bool.not_eq_true'] at h2
    rw [any_beq.2 hm] at h2; simp at h2

/-- what is told of a literal map -/
structure LitD (l : List Oper) (m t s : Nat) : Prop where
  hm : ∃ o, l[m]? = some o ∧ o.guard = none ∧ (∃ ty, o.op = .makeMap ty none) ∧ o.dst = some t
  hs : ∃ o, l[s]? = some o ∧ o.guard = none ∧ o.op = .move (.tmp t)
  hsm : ahead (masks l) s m = true
  ins : ∀ i o, l[i]? = some o → isIns o = true → (∃ ty k x, o.op = .insert ty (.tmp t) k x ∧ k ≠ .tmp t ∧ x ≠ .tmp t) ∧ o.guard = none ∧ ahead (masks l) i m = true ∧ ahead (masks l) s i = true
  oth : ∀ i o, l[i]? = some o → isIns o = false → t ∈ looks l o → i = s
  wr : ∀ i o, l[i]? = some o → o.dst = some t → i = m
theorem noGuard_ok {o : Option Oper} (h : noGuard o = true) : ∃ x, o = some x ∧ x.guard = none := by
  cases o with
  | none => simp [noGuard] at h
  | some x => refine ⟨x, rfl, ?_⟩; cases hg : x.guard with | none => rfl | some g => simp [noGuard, hg] at h
theorem litOk_ok {l : List Oper} {m t s : Nat} (h : litOk l (masks l) m t s = true) : LitD l m t s := by
  simp only [litOk, Bool.and_eq_true] at h
  obtain ⟨h1, h2, h3, h4, h5, h6⟩ := h
  obtain ⟨om, e1, e2⟩ := noGuard_ok h1
  obtain ⟨os, e3, e4⟩ := noGuard_ok h3
  have at_ : ∀ i o, l[i]? = some o → litAt l (masks l) m t s o i = true := fun i o hi => List.all_eq_true.1 h6 (o, i) (List.mem_zipIdx_iff_getElem?.2 (by simpa using hi))
  refine ⟨⟨om, e1, e2, ?_⟩, ⟨os, e3, e4, ?_⟩, h5, fun i o hi hins => ?_, fun i o hi hins hl => ?_, fun i o hi hd => ?_⟩
  · rw [e1] at h2
    obtain ⟨dst, op, ty, pos, aft, gd⟩ := om
    cases op <;> simp only [isMakeT] at h2 <;> try (simp at h2; done)
    rename_i ty r
    cases r <;> simp at h2
    cases dst <;> simp at h2
    exact ⟨⟨_, rfl⟩, by rw [h2]⟩
  · rw [e3] at h4
    obtain ⟨dst, op, ty, pos, aft, gd⟩ := os
    cases op <;> simp only [isMoveT] at h4 <;> try (simp at h4; done)
    rename_i x
    cases x <;> simp at h4
    rw [h4]
  · have h7 := at_ i o hi
    simp only [litAt, hins, ifB_true, Bool.and_eq_true] at h7
    obtain ⟨⟨h8, h9, h10, h11⟩, _⟩ := h7
    obtain ⟨_, e5, e6⟩ := noGuard_ok h9
    cases e5
    refine ⟨?_, e6, h10, h11⟩
    obtain ⟨dst, op, ty, pos, aft, gd⟩ := o
    cases op <;> simp only [readsIns] at h8 <;> try (simp at h8; done)
    rename_i ty mm k x _
    simp only [Bool.and_eq_true] at h8
    obtain ⟨⟨a, b⟩, c⟩ := h8
    cases mm <;> simp at a
    subst a
    refine ⟨ty, k, x, rfl, ?_, ?_⟩
    · intro e; subst e; simp at b
    · intro e; subst e; simp at c
  · have h7 := at_ i o hi
    simp only [litAt, hins, ifB_false, Bool.and_eq_true, Bool.or_eq_true] at h7
    rcases h7.1 with h8 | h8
    · rw [any_beq.2 hl] at h8; simp at h8
    · exact Nat.eq_of_beq_eq_true h8
  · have h7 := at_ i o hi
    simp only [litAt, Bool.and_eq_true, Bool.or_eq_true, hd] at h7
    rcases h7.2 with h8 | h8
    · exact Nat.eq_of_beq_eq_true h8
    · simp at h8

/-- what the check of a plan says -/
structure PF (E : Env) (l : List Oper) : Prop where
  mask : ∀ i o, l[i]? = some o → ∀ x, ahead (masks l) i x = true ↔ ∃ e ∈ o.after, Region.binds .any e = true ∧ (x = e.on ∨ ahead (masks l) e.on x = true)
  pair : ∀ i j x y t, i ≠ j → l[i]? = some x → l[j]? = some y → x.dst = some t → (t ∈ looks l y ∨ y.dst = some t) → ahead (masks l) j i = true ∨ ahead (masks l) i j = true
  len : (plan E l).length = l.length
  good : Good l.length (plan E l)
  lit : (litOf l = none ∧ sealer l = none ∧ ∀ o ∈ l, isIns o = false) ∨ ∃ m t s, litOf l = some (m, t) ∧ sealer l = some (s, t) ∧ LitD l m t s
theorem pf_ok {E : Env} {l : List Oper} (h : planOk E l = true) : PF E l := by
  simp only [planOk, Bool.and_eq_true] at h
  obtain ⟨h1, h2, h3, h4, h5⟩ := h
  have zi : ∀ {i o}, l[i]? = some o → (o, i) ∈ l.zipIdx := fun hi => List.mem_zipIdx_iff_getElem?.2 (by simpa using hi)
  have pr : ∀ i j x y, i < j → l[i]? = some x → l[j]? = some y → ahead (masks l) j i = true ∨ apartB l x y = true := fun i j x y hij hi hj => by
    have := List.all_eq_true.1 (List.all_eq_true.1 h2 _ (zi hi)) _ (zi hj)
    simp only [Bool.or_eq_true, ble_true] at this
    rcases this with a | a | a
    · omega
    · exact .inl a
    · exact .inr a
  refine ⟨fun i o hi x => ?_, fun i j x y t hij hi hj hd hl => ?_, Nat.eq_of_beq_eq_true h4, good_ok h5, ?_⟩
  · have := Nat.eq_of_beq_eq_true (List.all_eq_true.1 h1 _ (zi hi))
    show tB ((masks l).getD i 0) x = true ↔ _
    rw [this]; exact maskOf_ok _ _ _
  · rcases Nat.lt_or_gt_of_ne hij with hlt | hlt
    · rcases pr i j x y hlt hi hj with a | a
      · exact .inl a
      · obtain ⟨b, _⟩ := apart_ok a
        rcases hl with hl | hl
        · exact absurd hl (b t hd).1
        · exact absurd hl (b t hd).2
    · rcases pr j i y x hlt hj hi with a | a
      · exact .inr a
      · obtain ⟨b, c⟩ := apart_ok a
        rcases hl with hl | hl
        · exact absurd hl (c t hd)
        · exact absurd hd (b t hl).2
  · cases hm : litOf l with
    | none =>
      rw [hm] at h3
      refine .inl ⟨rfl, by unfold sealer; rw [hm]; rfl, fun o ho => ?_⟩
      have := List.all_eq_true.1 h3 o ho
      simpa using this
    | some m =>
      rw [hm] at h3
      obtain ⟨s, hs, h3⟩ := onO_eq h3 (by simp)
      rw [Bool.and_eq_true] at h3
      obtain ⟨m, t⟩ := m
      obtain ⟨s, u⟩ := s
      obtain rfl := Nat.eq_of_beq_eq_true h3.2
      exact .inr ⟨m, _, s, rfl, hs, litOk_ok h3.1⟩
theorem PF.cls {E : Env} {l : List Oper} (f : PF E l) {d : DI} (h : d ∈ plan E l) : l[d.ix]? = some d.o ∧ d.m = (masks l).getD d.ix 0 ∧ d.cl = clsIn E (litOf l) (sealer l) (d.o, d.ix) := by
  obtain ⟨⟨o, i⟩, a, rfl⟩ := plan_mem h
  exact ⟨by have := List.mem_zipIdx_iff_getElem?.1 a; simpa [mkDI] using this, rfl, rfl⟩
theorem clsOf_ne (E : Env) (o : Op) : clsOf E o ≠ .lit ∧ ∀ t, clsOf E o ≠ .shut t := by
  constructor
  · intro h
    unfold clsOf at h
    split at h <;> try (simp at h; done)
    all_goals split at h <;> simp at h
  · intro t h
    unfold clsOf at h
    split at h <;> try (simp at h; done)
    all_goals split at h <;> simp at h
theorem clsOf_ins {E : Env} {o : Oper} {t : TypeId} {k x : Operand} (h : clsOf E o.op = .ins t k x) : isIns o = true ∧ ∃ m, o.op = .insert t m k x := by
  obtain ⟨dst, op, ty, pos, aft, gd⟩ := o
  simp only at h
  unfold clsOf at h
  split at h <;> try (simp at h; done)
  all_goals first
    | (split at h <;> simp at h; done)
    | (simp at h; obtain ⟨rfl, rfl, rfl⟩ := h; exact ⟨rfl, _, rfl⟩)
theorem isIns_cls {E : Env} {o : Oper} (h : isIns o = true) : ∃ t k x, clsOf E o.op = .ins t k x := by
  obtain ⟨dst, op, ty, pos, aft, gd⟩ := o
  cases op <;> simp [isIns] at h
  exact ⟨_, _, _, rfl⟩
/-- the kinds in a region -/
theorem PF.kind {E : Env} {l : List Oper} (f : PF E l) {d : DI} (h : d ∈ plan E l) :
    (∀ c, d.cl = c → (c = .pure ∨ c = .read ∨ c = .new ∨ c = .eff) → clsOf E d.o.op = c) ∧
    (d.cl = .lit → ∃ t s, LitD l d.ix t s ∧ sealer l = some (s, t)) ∧
    (∀ u, d.cl = .shut u → ∃ m, LitD l m u d.ix ∧ sealer l = some (d.ix, u)) ∧
    (∀ t k x, d.cl = .ins t k x → isIns d.o = true ∧ ∃ m u s, LitD l m u s ∧ sealer l = some (s, u) ∧ d.o.op = .insert t (.tmp u) k x) := by
  obtain ⟨h1, _, h3⟩ := f.cls h
  rcases f.lit with ⟨e1, e2, e3⟩ | ⟨m, t, s, e1, e2, e3⟩
  · rw [e1, e2] at h3
    simp only [clsIn, onO_none] at h3
    refine ⟨fun c hc _ => by rw [← h3, hc], fun hc => absurd (h3.symm.trans hc) (clsOf_ne E _).1, fun u hc => absurd (h3.symm.trans hc) ((clsOf_ne E _).2 u), fun t k x hc => ?_⟩
    have := (clsOf_ins (h3.symm.trans hc)).1
    rw [e3 d.o (List.mem_of_getElem? h1)] at this; simp at this
  · rw [e1, e2] at h3
    simp only [clsIn, onO_some] at h3
    cases hb : Nat.beq s d.ix with
    | true =>
      obtain rfl := Nat.eq_of_beq_eq_true hb
      rw [hb, ifB_true] at h3
      refine ⟨fun c hc hh => ?_, fun hc => by rw [hc] at h3; simp at h3, fun u hc => ?_, fun t k x hc => by rw [hc] at h3; simp at h3⟩
      · rw [hc] at h3; subst h3; simp at hh
      · rw [hc] at h3; simp at h3; subst h3; exact ⟨m, e3, e2⟩
    | false =>
      rw [hb, ifB_false] at h3
      cases hb2 : Nat.beq m d.ix with
      | true =>
        obtain rfl := Nat.eq_of_beq_eq_true hb2
        rw [hb2, ifB_true] at h3
        refine ⟨fun c hc hh => ?_, fun hc => ⟨t, s, e3, e2⟩, fun u hc => by rw [hc] at h3; simp at h3, fun t k x hc => by rw [hc] at h3; simp at h3⟩
        rw [hc] at h3; subst h3; simp at hh
      | false =>
        rw [hb2, ifB_false] at h3
        refine ⟨fun c hc _ => by rw [← h3, hc], fun hc => absurd (h3.symm.trans hc) (clsOf_ne E _).1, fun u hc => absurd (h3.symm.trans hc) ((clsOf_ne E _).2 u), fun t' k x hc => ?_⟩
        obtain ⟨q1, mm, q2⟩ := clsOf_ins (h3.symm.trans hc)
        obtain ⟨⟨ty, k', x', q3, _⟩, _⟩ := e3.ins _ _ h1 q1
        rw [q2] at q3
        simp at q3
        exact ⟨q1, m, t, s, e3, e2, by rw [q2, q3.2.1]⟩
end Go.Ev
namespace Go.Ev
set_option linter.unusedVariables false
set_option linter.unusedSimpArgs false

def Rec.isI (r : Rec) : Bool := isIns r.d.o
def Dif (x y : AVal) : Prop := eqD .string x y = some false ∧ eqD .string y x = some false
def strip (e : AEnt) : AEnt := ⟨e.key, e.val, 0⟩

section
variable {E : Env} {l : List Oper} (f : PF E l)
include f
theorem PF.before {A B : List DI} {d : DI} (hp : A ++ d :: B = plan E l) : (∀ d' ∈ A, d'.ix ≠ d.ix) ∧ (∀ x, ahead (masks l) d.ix x = true → ∃ d' ∈ A, d'.ix = x) ∧ (∀ d' ∈ A, d'.cl.isEff = true → ahead (masks l) d.ix d'.ix = true) := by
  obtain ⟨a, b, c⟩ := f.good.at_ A d B hp.symm
  have hm : d.m = (masks l).getD d.ix 0 := (f.cls (by rw [← hp]; simp)).2.1
  rw [hm] at b c
  exact ⟨a, b, c⟩
theorem PF.after {A B : List DI} {d d' : DI} (hp : A ++ d :: B = plan E l) (h : d' ∈ B) : d'.ix ≠ d.ix ∧ ahead (masks l) d.ix d'.ix = false := by
  obtain ⟨B1, B2, rfl⟩ := List.append_of_mem h
  have h1 := (f.before (A := A ++ d :: B1) (d := d') (B := B2) (by simpa using hp)).1
  refine ⟨fun e => h1 d (by simp) e.symm, ?_⟩
  cases ha : ahead (masks l) d.ix d'.ix with
  | false => rfl
  | true =>
    obtain ⟨d'', h2, h3⟩ := (f.before hp).2.1 _ ha
    exact absurd h3 (h1 d'' (by simp [h2]))
theorem PF.prior {A B : List DI} {d d' : DI} (hp : A ++ d :: B = plan E l) (h : d' ∈ A) : d'.ix ≠ d.ix ∧ ahead (masks l) d'.ix d.ix = false := by
  obtain ⟨A1, A2, rfl⟩ := List.append_of_mem h
  have := f.after (A := A1) (B := A2 ++ d :: B) (d := d') (d' := d) (by simpa using hp) (by simp)
  exact ⟨fun e => this.1 e.symm, this.2⟩

section
variable {R1 R2 : List Rec} {r : Rec} {L : List DI} (hp : (R1 ++ r :: R2).map (·.d) ++ L = plan E l) {dn : Nat → Bool} (down : ∀ i x, dn i = true → ahead (masks l) i x = true → dn x = true) (hr : dn r.d.ix = false)
include hp down hr
omit down hr in
theorem rec_at : ∀ r' ∈ R1 ++ r :: R2, l[r'.d.ix]? = some r'.d.o := fun r' h => (f.cls (by rw [← hp]; exact List.mem_append_left _ (List.mem_map.2 ⟨r', h, rfl⟩))).1
omit f down hr in
theorem rec_split : R1.map (·.d) ++ r.d :: (R2.map (·.d) ++ L) = plan E l := by simpa using hp
/-- what is looked at is there -/
theorem look_ok (anc : ∀ x, ahead (masks l) r.d.ix x = true → dn x = true) {t : Nat} (ht : t ∈ looks l r.d.o) (tm0 : Loc) : (putR ((R1 ++ r :: R2).filter fun r => dn r.d.ix) tm0).get t = (putR R1 tm0).get t := by
  have hs := rec_split hp
  have ha := rec_at f hp
  rw [List.filter_append, putR_append, putR_skip]
  · have := putR_congr (t := t) (fun r => dn r.d.ix) (fun _ => true) R1 tm0 tm0 (fun r' h1 h2 => ?_) rfl
    · rw [this, filter_tt]
    · obtain ⟨n1, n2⟩ := f.prior hs (List.mem_map.2 ⟨r', h1, rfl⟩)
      rcases f.pair _ _ _ _ t n1 (ha r' (by simp [h1])) (ha r (by simp)) h2 (.inl ht) with h3 | h3
      · exact anc _ h3
      · rw [n2] at h3; simp at h3
  · intro r' h1 h2
    rcases List.mem_cons.1 h1 with rfl | h1
    · exact hr
    · obtain ⟨n1, n2⟩ := f.after hs (d' := r'.d) (by simp; exact .inl ⟨r', h1, rfl⟩)
      rcases f.pair _ _ _ _ t n1 (ha r' (by simp [h1])) (ha r (by simp)) h2 (.inl ht) with h3 | h3
      · rw [n2] at h3; simp at h3
      · cases h4 : dn r'.d.ix with
        | false => rfl
        | true => rw [down _ _ h4 h3] at hr; simp at hr
/-- what is written is what is there -/
theorem put_ok' {dn' : Nat → Bool} (hdn : ∀ i, dn' i = (dn i || i == r.d.ix)) (t : Nat) (tm0 : Loc) :
    (putR ((R1 ++ r :: R2).filter fun r => dn' r.d.ix) tm0).get t = if r.d.o.dst = some t then some r.v else (putR ((R1 ++ r :: R2).filter fun r => dn r.d.ix) tm0).get t := by
  have hs := rec_split hp
  have ha := rec_at f hp
  by_cases ht : r.d.o.dst = some t
  · rw [if_pos ht, List.filter_append, putR_append, List.filter_cons, if_pos (by rw [hdn]; simp), putR_cons, putR_skip]
    · rw [putO_get, if_pos ht]
    · intro r' h1 h2
      obtain ⟨n1, n2⟩ := f.after hs (d' := r'.d) (by simp; exact .inl ⟨r', h1, rfl⟩)
      rw [hdn]
      rcases f.pair _ _ _ _ t n1 (ha r' (by simp [h1])) (ha r (by simp)) h2 (.inr ht) with h3 | h3
      · rw [n2] at h3; simp at h3
      · cases h4 : dn r'.d.ix with
        | false => simpa using n1
        | true => rw [down _ _ h4 h3] at hr; simp at hr
  · rw [if_neg ht]
    refine putR_congr (t := t) (fun r => dn' r.d.ix) (fun r => dn r.d.ix) _ tm0 tm0 (fun r' h1 h2 => ?_) rfl
    rw [hdn]
    by_cases e : r'.d.ix = r.d.ix
    · exfalso
      rcases List.mem_append.1 h1 with h1 | h1
      · exact (f.prior hs (List.mem_map.2 ⟨r', h1, rfl⟩)).1 e
      · rcases List.mem_cons.1 h1 with rfl | h1
        · exact ht h2
        · exact (f.after hs (d' := r'.d) (by simp; exact .inl ⟨r', h1, rfl⟩)).1 e
    · simp [e]
end
end

/-- what waits -/
inductive Pended (E : Env) (l : List Oper) (call : CallF) (es : List AEnt) (ps : List Pend) (r : Rec) : Prop where
  | off (hg : gdO l r.d.o r.tm = some false) (hv : r.v = undefA) (hc : r.d.cl = .pure ∨ r.d.cl = .read ∨ r.d.cl = .new) (hid : r.id = none)
  | pure (hg : gdO l r.d.o r.tm = some true) (hc : r.d.cl = .pure) (hx : ∃ h h', opF E r.d.o.op call r.tm h = .ok r.v h') (hid : r.id = none)
  | read (hg : gdO l r.d.o r.tm = some true) (hc : r.d.cl = .read) (hx : Pend.rd r.d.ix (opF E r.d.o.op) r.tm r.v ∈ ps) (hid : r.id = none)
  | new (hg : gdO l r.d.o r.tm = some true) (hc : r.d.cl = .new) (hb h1 : Heap) (bl : ABlk) (hx : opF E r.d.o.op call r.tm hb = .ok r.v h1) (hbl : h1 = hb.add bl) (hid : r.id = some hb.next)
      (p : Pend) (hp : p ∈ ps) (hpx : p.ix = r.d.ix) (hpk : ∀ call K, pendOk call K p = true → SameBlk bl K hb.next)
  | lit (hc : r.d.cl = .lit) (hv : r.v = .bad) (hid : r.id = none)
  | shut (u nx : Nat) (hc : r.d.cl = .shut u) (hv : r.v = .map nx) (hid : r.id = some nx) (hp : Pend.nl r.d.ix nx es ∈ ps)
  | ins (t : TypeId) (k x : Operand) (mt : MT) (hc : r.d.cl = .ins t k x) (hmt : mapO E t = some mt) (hs : mt.str = true) (hk : isStrA (opnd k r.tm) = true) (he : r.ent = ⟨opnd k r.tm, opnd x r.tm, 0⟩) (hv : r.v = undefA) (hid : r.id = none)
theorem Pended.mono {E : Env} {l : List Oper} {call : CallF} {es : List AEnt} {ps ps' : List Pend} {r : Rec} (h : Pended E l call es ps r) (hs : ∀ p ∈ ps, p.ix = r.d.ix → p ∈ ps') : Pended E l call es ps' r := by
  cases h with
  | off a b c d => exact .off a b c d
  | pure a b c d => exact .pure a b c d
  | read a b c d => exact .read a b (hs _ c rfl) d
  | new a b hb h1 bl c d e p q1 q2 q3 => exact .new a b hb h1 bl c d e p (hs p q1 q2) q2 q3
  | lit a b c => exact .lit a b c
  | shut u nx a b c d => exact .shut u nx a b c (hs _ d rfl)
  | ins t k x mt a b c d e g i => exact .ins t k x mt a b c d e g i

structure Sim where
  R : List Rec
  L : List DI
  es : List AEnt
  ps : List Pend
  tm : Loc
  K : Heap
  ls : Array Bool
  μ : Mu
  a : Act
  w : World
def Sim.dn (s : Sim) (i : Nat) : Bool := s.ls.getD i false

/-- the start of a region -/
structure Base where
  ops : Array Oper
  call : CallF
  N : Nat
  tm : Loc
  h : Heap
  μ : Mu
  a : Act
  w : World
abbrev Base.l (B : Base) : List Oper := B.ops.toList

/-- the literal map, while things go into it -/
def Conc (B : Base) (s : Sim) (t : Nat) : Prop := ∃ r arr cl X, s.a.tmps.getD t undef = .map (some r) ∧ B.w.heap.size ≤ r ∧ s.w.heap[r]? = some (.map arr cl) ∧ ¬ Alive s.μ s.K r ∧ ER s.μ X arr.toList ∧
  (X.map strip).Perm ((s.R.filter fun r => r.isI && s.dn r.d.ix).map (·.ent))

structure Inv (E : Env) (B : Base) (s : Sim) : Prop where
  plan : s.R.map (·.d) ++ s.L = plan E B.l
  tmR : s.tm = putR s.R B.tm
  tmr : ∀ R1 r R2, s.R = R1 ++ r :: R2 → r.tm = putR R1 B.tm
  size : s.ls.size = B.ops.size
  sub : ∀ i, s.dn i = true → ∃ r ∈ s.R, r.d.ix = i
  down : ∀ i x, s.dn i = true → ahead (masks B.l) i x = true → s.dn x = true
  effs : ∀ r ∈ s.R, r.d.cl.isEff = true → s.dn r.d.ix = true
  pend : ∀ r ∈ s.R, s.dn r.d.ix = false → Pended E B.l B.call s.es s.ps r
  idlt : ∀ r ∈ s.R, ∀ i, r.id = some i → B.h.next ≤ i ∧ i < s.K.next
  idne : s.R.Pairwise fun r r' => ∀ i, r.id = some i → r'.id ≠ some i
  unb : ∀ r ∈ s.R, s.dn r.d.ix = false → ∀ i, r.id = some i → s.μ i = .unborn
  stp : Stp B.μ B.h B.w s.μ s.K s.w
  tmok : TmOK s.μ (putR (s.R.filter fun r => s.dn r.d.ix) B.tm) s.a
  sized : Sized B.N s.a
  defs : s.a.defers = B.a.defers
  ents : s.es = (s.R.filter Rec.isI).map (·.ent)
  born : ∀ r ∈ s.R, r.isI = true → r.ent.born = 0
  dif : s.R.Pairwise fun r r' => r.isI = true → r'.isI = true → Dif r.ent.key r'.ent.key
  conc : ∀ m t q, LitD B.l m t q → sealer B.l = some (q, t) → s.dn m = true → s.dn q = false → Conc B s t

theorem Stp.add {μ0 μ : Mu} {h0 h : Heap} {w0 w : World} (st : Stp μ0 h0 w0 μ h w) (bl : ABlk) : Stp μ0 h0 w0 μ (h.add bl) w := by
  have hu : ∀ b, h.next ≤ b → μ b = .unborn := st.hr.fresh
  have hblk : ∀ b x, (h.add bl).blk b = some x → (∃ r sh sz, μ b = .live r sh sz) → h.blk b = some x := fun b x hb ⟨r, sh, sz, hm⟩ => by
    rw [Heap.blk_add] at hb
    by_cases e : b = h.next
    · subst e; rw [hu _ (Nat.le_refl _)] at hm; simp at hm
    · simpa [e] using hb
  refine ⟨⟨st.hr.zero, fun b hb => hu b (Nat.le_trans (Nat.le_succ _) hb), fun b x hb => ?_, fun b b' x x' r sh sz sh' sz' hb hb' hd hd' hm hm' => ?_⟩, Nat.le_trans st.next (Nat.le_succ _), st.ext, st.unb, st.size, fun r hr al => ?_, st.frame, st.tape, st.os, st.out⟩
  · rw [Heap.blk_add] at hb
    by_cases e : b = h.next
    · subst e; rw [hu _ (Nat.le_refl _)]; trivial
    · exact st.hr.blk b x (by simpa [e] using hb)
  · exact st.hr.inj b b' x x' r sh sz sh' sz' (hblk b x hb ⟨_, _, _, hm⟩) (hblk b' x' hb' ⟨_, _, _, hm'⟩) hd hd' hm hm'
  · obtain ⟨b, x, sh, sz, hb, hd, hm⟩ := al
    exact st.img r hr ⟨b, x, sh, sz, hblk b x hb ⟨_, _, _, hm⟩, hd, hm⟩
theorem Alive.add {μ : Mu} {h : Heap} {bl : ABlk} {r : Nat} (hu : μ h.next = .unborn) (al : Alive μ (h.add bl) r) : Alive μ h r := by
  obtain ⟨b, x, sh, sz, hb, hd, hm⟩ := al
  refine ⟨b, x, sh, sz, ?_, hd, hm⟩
  rw [Heap.blk_add] at hb
  by_cases e : b = h.next
  · subst e; rw [hu] at hm; simp at hm
  · simpa [e] using hb
end Go.Ev
namespace Go.Ev
set_option linter.unusedVariables false
set_option linter.unusedSimpArgs false

theorem get_of_split {R1 R2 R : List Rec} {r x : Rec} (h : R ++ [x] = R1 ++ r :: R2) : (r = x ∧ R1 = R ∧ R2 = []) ∨ ∃ R2', R = R1 ++ r :: R2' ∧ R2 = R2' ++ [x] := by
  rcases List.eq_nil_or_concat R2 with rfl | ⟨R2', y, rfl⟩
  · left
    have := List.append_inj' h (by simp)
    obtain ⟨a, b⟩ := this
    simp at b
    exact ⟨b.symm, a.symm, rfl⟩
  · right
    have h' : R ++ [x] = (R1 ++ r :: R2') ++ [y] := by simpa using h
    obtain ⟨a, b⟩ := List.append_inj' h' (by simp)
    simp at b; subst b
    exact ⟨R2', a, by simp⟩

section
variable {E : Env} {B : Base} (f : PF E B.l)
include f

theorem Inv.undone {s : Sim} (iv : Inv E B s) {d : DI} {L : List DI} (hL : s.L = d :: L) : s.dn d.ix = false := by
  cases h : s.dn d.ix with
  | false => rfl
  | true =>
    obtain ⟨r, hr, e⟩ := iv.sub _ h
    have hp : s.R.map (·.d) ++ d :: L = Go.Ev.plan E B.l := by rw [← hL]; exact iv.plan
    exact absurd e ((f.before hp).1 r.d (List.mem_map.2 ⟨r, hr, rfl⟩))

/-- one more is planned -/
theorem Inv.push {s : Sim} (iv : Inv E B s) {d : DI} {L : List DI} (hL : s.L = d :: L) (hne : d.cl.isEff = false) (r : Rec) (hrd : r.d = d) (hrt : r.tm = s.tm) (es : List AEnt) (ps : List Pend) (K : Heap)
    (hpend : Pended E B.l B.call es ps r) (hold : ∀ r' ∈ s.R, Pended E B.l B.call s.es s.ps r' → Pended E B.l B.call es ps r')
    (hK : (K = s.K ∧ r.id = none) ∨ ∃ bl, K = s.K.add bl ∧ (r.id = none ∨ r.id = some s.K.next))
    (hes : es = s.es ++ (if r.isI then [r.ent] else [])) (hborn : r.isI = true → r.ent.born = 0) (hdif : r.isI = true → ∀ r' ∈ s.R, r'.isI = true → Dif r'.ent.key r.ent.key) :
    Inv E B { s with R := s.R ++ [r], L := L, es := es, ps := ps, tm := putO d.o.dst r.v s.tm, K := K } := by
  have hun := iv.undone f hL
  have hdn : s.dn r.d.ix = false := by rw [hrd]; exact hun
  have hKn : s.K.next ≤ K.next := by
    rcases hK with ⟨rfl, _⟩ | ⟨bl, rfl, _⟩
    · exact Nat.le_refl _
    · exact Nat.le_succ _
  have hid : ∀ i, r.id = some i → i = s.K.next ∧ i < K.next := fun i hi => by
    rcases hK with ⟨rfl, h⟩ | ⟨bl, rfl, h | h⟩
    · rw [h] at hi; simp at hi
    · rw [h] at hi; simp at hi
    · rw [h] at hi; simp at hi; subst hi; exact ⟨rfl, Nat.lt_succ_self _⟩
  have hfil : (s.R ++ [r]).filter (fun r => s.dn r.d.ix) = s.R.filter (fun r => s.dn r.d.ix) := by
    rw [List.filter_append]; simp [hdn]
  refine ⟨?_, ?_, ?_, iv.size, ?_, iv.down, ?_, ?_, ?_, ?_, ?_, ?_, ?_, iv.sized, iv.defs, ?_, ?_, ?_, ?_⟩
  · show (s.R ++ [r]).map (·.d) ++ L = _
    rw [← iv.plan, hL]; simp [hrd]
  · show putO d.o.dst r.v s.tm = putR (s.R ++ [r]) B.tm
    rw [putR_append, ← iv.tmR, ← hrd]; rfl
  · intro R1 r' R2 h
    rcases get_of_split h with ⟨rfl, rfl, rfl⟩ | ⟨R2', h1, rfl⟩
    · rw [hrt]; exact iv.tmR
    · exact iv.tmr R1 r' R2' h1
  · intro i hi
    obtain ⟨r', a, b⟩ := iv.sub i hi
    exact ⟨r', by simp [a], b⟩
  · intro r' hr' he
    rcases List.mem_append.1 hr' with h | h
    · exact iv.effs r' h he
    · simp at h; subst h; rw [hrd, hne] at he; simp at he
  · intro r' hr' hd
    rcases List.mem_append.1 hr' with h | h
    · exact hold r' h (iv.pend r' h hd)
    · simp at h; subst h; exact hpend
  · intro r' hr' i hi
    rcases List.mem_append.1 hr' with h | h
    · obtain ⟨a, b⟩ := iv.idlt r' h i hi
      exact ⟨a, Nat.lt_of_lt_of_le b hKn⟩
    · simp at h; subst h
      obtain ⟨a, b⟩ := hid i hi
      exact ⟨by rw [a]; exact iv.stp.next, b⟩
  · show (s.R ++ [r]).Pairwise _
    rw [List.pairwise_append]
    refine ⟨iv.idne, List.pairwise_singleton _ _, fun r' hr' x hx i hi hc => ?_⟩
    simp at hx; subst hx
    have := (hid i hc).1
    have := (iv.idlt r' hr' i hi).2
    omega
  · intro r' hr' hd i hi
    rcases List.mem_append.1 hr' with h | h
    · exact iv.unb r' h hd i hi
    · simp at h; subst h
      rw [(hid i hi).1]
      exact iv.stp.hr.fresh _ (Nat.le_refl _)
  · rcases hK with ⟨rfl, _⟩ | ⟨bl, rfl, _⟩
    · exact iv.stp
    · exact iv.stp.add bl
  · show TmOK s.μ (putR ((s.R ++ [r]).filter fun r => s.dn r.d.ix) B.tm) s.a
    rw [hfil]; exact iv.tmok
  · show es = _
    rw [hes, iv.ents, List.filter_append, List.map_append]
    cases h : r.isI <;> simp [h]
  · intro r' hr' hi
    rcases List.mem_append.1 hr' with h | h
    · exact iv.born r' h hi
    · simp at h; subst h; exact hborn hi
  · show (s.R ++ [r]).Pairwise _
    rw [List.pairwise_append]
    refine ⟨iv.dif, List.pairwise_singleton _ _, fun r' hr' x hx h1 h2 => ?_⟩
    simp at hx; subst hx
    exact hdif h2 r' hr' h1
  · intro m t q hl hs hm hq
    obtain ⟨rr, arr, cl, X, c1, c2, c3, c4, c5, c6⟩ := iv.conc m t q hl hs hm hq
    refine ⟨rr, arr, cl, X, c1, c2, c3, ?_, c5, ?_⟩
    · rcases hK with ⟨rfl, _⟩ | ⟨bl, rfl, _⟩
      · exact c4
      · exact fun al => c4 (al.add (iv.stp.hr.fresh _ (Nat.le_refl _)))
    · show (X.map strip).Perm (((s.R ++ [r]).filter fun r => r.isI && s.dn r.d.ix).map (·.ent))
      rw [List.filter_append]
      simpa [hdn] using c6

end

theorem findE_miss_all {k : AVal} : ∀ {es : List AEnt}, (∀ e ∈ es, eqD .string k e.key = some false) → findE (eqD .string) k es = .miss := by
  intro es
  induction es with
  | nil => intro _; rfl
  | cons e es ih =>
    intro h
    rw [findE_cons, h e (by simp)]
    exact ih fun x hx => h x (by simp [hx])
theorem newKey_ok {k : AVal} {es : List AEnt} (h : newKey k es = true) : ∀ e ∈ es, eqD .string k e.key = some false := by
  unfold newKey at h
  cases he : findE (eqD .string) k es <;> rw [he] at h <;> simp at h
  exact findS_miss he
theorem dif_of {x y : AVal} (h : eqD .string x y = some false) : Dif y x := by
  obtain ⟨a, n, b, m, rfl, rfl, h1⟩ := eqS_str h
  refine ⟨?_, h⟩
  simp only [eqD, Option.some.injEq]
  cases h2 : strEq b m a n with
  | false => rfl
  | true =>
    exfalso
    have e1 : Nat.beq m n = true ∧ Nat.beq b a = true := by
      unfold strEq at h2
      cases hh : Nat.beq m n <;> rw [hh] at h2 <;> simp at h2
      exact ⟨rfl, by rw [h2]; exact Nat.beq_refl _⟩
    rw [Nat.eq_of_beq_eq_true e1.1, Nat.eq_of_beq_eq_true e1.2] at h1
    simp [strEq] at h1

theorem runD_cons (E : Env) (l : List Oper) (d : DI) (L : List DI) : runD E l (d :: L) = stepD E l d (runD E l L) := rfl
end Go.Ev
namespace Go.Ev
set_option linter.unusedVariables false
set_option linter.unusedSimpArgs false

def Stable (E : Env) (B : Base) (tmF : Loc) (hF : Heap) (s : Sim) : Prop :=
  runD E B.l s.L s.es s.ps B.call s.tm s.K = .ok tmF hF ∧ (s.L = [] ∨ ∃ d L, s.L = d :: L ∧ d.cl = .eff)

theorem onO_RS {α : Type} {o : Option α} {k : α → RS} {tm : Loc} {h : Heap} (e : onO o RS.no k = .ok tm h) : ∃ x, o = some x ∧ k x = .ok tm h := by
  cases o with
  | none => simp at e
  | some x => exact ⟨x, rfl, e⟩

section
variable {P : Program} {E : Env} (hE : EnvOK P E) {B : Base} (f : PF E B.l) {tmF : Loc} {hF : Heap}
include hE f

theorem doF_ok {s : Sim} (iv : Inv E B s) {d : DI} {L : List DI} (hL : s.L = d :: L) (hc : d.cl = .pure ∨ d.cl = .read ∨ d.cl = .new) (hr : doF B.l d (opF E d.o.op) (runD E B.l L) s.es s.ps B.call s.tm s.K = .ok tmF hF) :
    ∃ s', Inv E B s' ∧ s'.L = L ∧ runD E B.l s'.L s'.es s'.ps B.call s'.tm s'.K = .ok tmF hF ∧ s'.ls = s.ls ∧ s'.a = s.a ∧ s'.w = s.w := by
  have hdp : d ∈ Go.Ev.plan E B.l := by rw [← iv.plan, hL]; simp
  obtain ⟨k1, k2, k3, k4⟩ := f.kind hdp
  have hcl := k1 d.cl rfl (by rcases hc with h | h | h <;> simp [h])
  have hne : d.cl.isEff = false := by rcases hc with h | h | h <;> rw [h] <;> rfl
  have hni : isIns d.o = false := by
    cases h : isIns d.o with
    | false => rfl
    | true => obtain ⟨t, k, x, h2⟩ := isIns_cls (E := E) h; rw [h2] at hcl; rcases hc with h | h | h <;> rw [h] at hcl <;> simp at hcl
  unfold doF at hr
  obtain ⟨b, hb, hr⟩ := onO_RS hr
  cases b with
  | false =>
    rw [ifB_false] at hr
    let r : Rec := ⟨d, undefA, s.tm, none, ⟨undefA, undefA, 0⟩⟩
    have hi : r.isI = false := hni
    exact ⟨_, iv.push f hL hne r rfl rfl s.es s.ps s.K (.off hb rfl hc rfl) (fun _ _ h => h) (.inl ⟨rfl, rfl⟩) (by simp [hi]) (fun h => absurd (hi.symm.trans h) (by simp)) (fun h => absurd (hi.symm.trans h) (by simp)), rfl, hr, rfl, rfl, rfl⟩
  | true =>
    rw [ifB_true] at hr
    cases hop : opF E d.o.op B.call s.tm s.K with
    | no => rw [hop] at hr; simp at hr
    | ok v h1 =>
      rw [hop] at hr
      obtain ⟨ps, hps, hr⟩ := onO_RS hr
      rcases hc with hc | hc | hc
      · have hps' : ps = s.ps := by unfold pendOf at hps; rw [hc] at hps; simpa using hps.symm
        have hh : h1 = s.K := by
          have := pure_any (hcl.trans hc) hop s.K
          rw [this] at hop; exact (R2.ok_inj hop).2.symm
        subst hps' hh
        let r : Rec := ⟨d, v, s.tm, none, ⟨undefA, undefA, 0⟩⟩
        have hi : r.isI = false := hni
        exact ⟨_, iv.push f hL hne r rfl rfl s.es s.ps s.K (.pure hb hc ⟨_, _, hop⟩ rfl) (fun _ _ h => h) (.inl ⟨rfl, rfl⟩) (by simp [hi]) (fun h => absurd (hi.symm.trans h) (by simp)) (fun h => absurd (hi.symm.trans h) (by simp)), rfl, hr, rfl, rfl, rfl⟩
      · have hps' : ps = .rd d.ix (opF E d.o.op) s.tm v :: s.ps := by unfold pendOf at hps; rw [hc] at hps; simpa using hps.symm
        have hh : h1 = s.K := read_same (hcl.trans hc) hop
        subst hps' hh
        let r : Rec := ⟨d, v, s.tm, none, ⟨undefA, undefA, 0⟩⟩
        have hi : r.isI = false := hni
        exact ⟨_, iv.push f hL hne r rfl rfl s.es (.rd d.ix (opF E d.o.op) s.tm v :: s.ps) s.K (.read hb hc (by simp [r]) rfl) (fun _ _ h => h.mono fun p hp _ => by simp [hp]) (.inl ⟨rfl, rfl⟩) (by simp [hi]) (fun h => absurd (hi.symm.trans h) (by simp)) (fun h => absurd (hi.symm.trans h) (by simp)), rfl, hr, rfl, rfl, rfl⟩
      · obtain ⟨bl, hbl, hsh, _⟩ := new_late (P := P) (o := d.o) hE (hcl.trans hc) hop
        obtain ⟨p, rfl, hpx, hpk⟩ := pend_new hc hbl hsh hps
        let r : Rec := ⟨d, v, s.tm, some s.K.next, ⟨undefA, undefA, 0⟩⟩
        have hi : r.isI = false := hni
        exact ⟨_, iv.push f hL hne r rfl rfl s.es (p :: s.ps) h1 (.new hb hc s.K h1 bl hop hbl rfl p (by simp) hpx hpk) (fun _ _ h => h.mono fun p hp _ => by simp [hp]) (.inr ⟨bl, hbl, .inr rfl⟩) (by simp [hi]) (fun h => absurd (hi.symm.trans h) (by simp)) (fun h => absurd (hi.symm.trans h) (by simp)), rfl, hr, rfl, rfl, rfl⟩

theorem plan_step {s : Sim} (iv : Inv E B s) {d : DI} {L : List DI} (hL : s.L = d :: L) (hne : d.cl.isEff = false) (hr : runD E B.l s.L s.es s.ps B.call s.tm s.K = .ok tmF hF) :
    ∃ s', Inv E B s' ∧ s'.L = L ∧ runD E B.l s'.L s'.es s'.ps B.call s'.tm s'.K = .ok tmF hF ∧ s'.ls = s.ls ∧ s'.a = s.a ∧ s'.w = s.w := by
  have hdp : d ∈ Go.Ev.plan E B.l := by rw [← iv.plan, hL]; simp
  have hpl : s.R.map (·.d) ++ d :: L = Go.Ev.plan E B.l := by rw [← hL]; exact iv.plan
  obtain ⟨k1, k2, k3, k4⟩ := f.kind hdp
  rw [hL, runD_cons] at hr
  unfold stepD at hr
  cases hc : d.cl with
  | pure => rw [hc] at hr; exact doF_ok hE f iv hL (.inl hc) hr
  | read => rw [hc] at hr; exact doF_ok hE f iv hL (.inr (.inl hc)) hr
  | new => rw [hc] at hr; exact doF_ok hE f iv hL (.inr (.inr hc)) hr
  | eff => rw [hc] at hne; exact absurd hne (by simp [Cls.isEff])
  | lit =>
    rw [hc] at hr
    simp only [litF] at hr
    obtain ⟨t, q, hl, _⟩ := k2 hc
    obtain ⟨o, ho, _, ⟨ty, hty⟩, _⟩ := hl.hm
    have hoo : o = d.o := by have := (f.cls hdp).1; rw [ho] at this; simpa using this
    let r : Rec := ⟨d, .bad, s.tm, none, ⟨undefA, undefA, 0⟩⟩
    have hi : r.isI = false := by show isIns d.o = false; rw [← hoo]; unfold isIns; rw [hty]
    exact ⟨_, iv.push f hL hne r rfl rfl s.es s.ps s.K (.lit hc rfl rfl) (fun _ _ h => h) (.inl ⟨rfl, rfl⟩) (by simp [hi]) (fun h => absurd (hi.symm.trans h) (by simp)) (fun h => absurd (hi.symm.trans h) (by simp)), rfl, hr, rfl, rfl, rfl⟩
  | shut u =>
    rw [hc] at hr
    simp only [sealF, forceN_eq] at hr
    obtain ⟨m, hl, _⟩ := k3 u hc
    obtain ⟨o, ho, _, hty⟩ := hl.hs
    have hoo : o = d.o := by have := (f.cls hdp).1; rw [ho] at this; simpa using this
    let r : Rec := ⟨d, .map s.K.next, s.tm, some s.K.next, ⟨undefA, undefA, 0⟩⟩
    have hi : r.isI = false := by show isIns d.o = false; rw [← hoo]; unfold isIns; rw [hty]
    exact ⟨_, iv.push f hL hne r rfl rfl s.es (.nl d.ix s.K.next s.es :: s.ps) (s.K.add (.lit s.es)) (.shut u s.K.next hc rfl rfl (by simp [r])) (fun _ _ h => h.mono fun p hp _ => by simp [hp]) (.inr ⟨.lit s.es, rfl, .inr rfl⟩) (by simp [hi]) (fun h => absurd (hi.symm.trans h) (by simp)) (fun h => absurd (hi.symm.trans h) (by simp)), rfl, hr, rfl, rfl, rfl⟩
  | ins t k x =>
    rw [hc] at hr
    simp only [insF] at hr
    obtain ⟨hii, m, u, q, hl, hsl, hop⟩ := k4 t k x hc
    cases hmt : mapO E t with
    | none => rw [hmt] at hr; simp at hr
    | some mt =>
      rw [hmt, onO_some] at hr
      obtain ⟨hb, hr⟩ := ifB_eq hr (by simp)
      rw [Bool.and_eq_true, Bool.and_eq_true] at hb
      obtain ⟨⟨h1, h2⟩, h3⟩ := hb
      let r : Rec := ⟨d, undefA, s.tm, none, ⟨opnd k s.tm, opnd x s.tm, 0⟩⟩
      have hi : r.isI = true := hii
      have hdif := newKey_ok h3
      refine ⟨_, iv.push f hL hne r rfl rfl (s.es ++ [⟨opnd k s.tm, opnd x s.tm, 0⟩]) s.ps s.K (.ins t k x mt hc hmt h1 h2 rfl rfl rfl) (fun r' hr' h => ?_) (.inl ⟨rfl, rfl⟩) (by simp [hi, r]) (fun h => rfl) (fun _ r' hr' hi' => ?_), rfl, hr, rfl, rfl, rfl⟩
      · cases h with
        | off a b c d => exact .off a b c d
        | pure a b c d => exact .pure a b c d
        | read a b c d => exact .read a b c d
        | new a b hb h1 bl c d e p q1 q2 q3 => exact .new a b hb h1 bl c d e p q1 q2 q3
        | lit a b c => exact .lit a b c
        | ins t k x mt a b c d e g i => exact .ins t k x mt a b c d e g i
        | shut u' nx a b c d =>
          -- the whole map is looked at behind all that goes into it
          exfalso
          have hrp : r'.d ∈ Go.Ev.plan E B.l := by rw [← iv.plan]; exact List.mem_append_left _ (List.mem_map.2 ⟨r', hr', rfl⟩)
          obtain ⟨_, _, k3', _⟩ := f.kind hrp
          obtain ⟨m', hl', hs'⟩ := k3' u' a
          have := hl'.ins _ _ (f.cls hdp).1 hii
          obtain ⟨n1, n2⟩ := f.prior hpl (List.mem_map.2 ⟨r', hr', rfl⟩)
          rw [this.2.2.2] at n2; simp at n2
      · have := hdif r'.ent (by rw [iv.ents]; exact List.mem_map.2 ⟨r', List.mem_filter.2 ⟨hr', hi'⟩, rfl⟩)
        exact dif_of this

theorem advance : ∀ (L : List DI) (s : Sim), s.L = L → Inv E B s → runD E B.l s.L s.es s.ps B.call s.tm s.K = .ok tmF hF → ∃ s', Inv E B s' ∧ Stable E B tmF hF s' ∧ s'.ls = s.ls ∧ s'.a = s.a ∧ s'.w = s.w := by
  intro L
  induction L with
  | nil => intro s hL iv hr; exact ⟨s, iv, ⟨hr, .inl hL⟩, rfl, rfl, rfl⟩
  | cons d L ih =>
    intro s hL iv hr
    cases hne : d.cl.isEff with
    | true =>
      refine ⟨s, iv, ⟨hr, .inr ⟨d, L, hL, ?_⟩⟩, rfl, rfl, rfl⟩
      cases hc : d.cl <;> rw [hc] at hne <;> simp [Cls.isEff] at hne
    | false =>
      obtain ⟨s1, iv1, hL1, hr1, e1, e2, e3⟩ := plan_step hE f iv hL hne hr
      obtain ⟨s2, iv2, st2, e4, e5, e6⟩ := ih s1 hL1 iv1 hr1
      exact ⟨s2, iv2, st2, e4.trans e1, e5.trans e2, e6.trans e3⟩
end
end Go.Ev
