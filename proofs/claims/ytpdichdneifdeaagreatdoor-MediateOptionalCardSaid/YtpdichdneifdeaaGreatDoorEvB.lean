import Derived.Test.YtpdichdneifdeaaGreatDoorEvA
import Derived.Laws.Strings
import Derived.Laws.StructEq
import Derived.Laws.FloatArith
import GoSem.Core.Utf8
namespace Go.Ev
set_option linter.unusedVariables false
set_option linter.unusedSimpArgs false

/-- the run gives a value that the abstract one stands for, and leaves the world alone -/
def Gives (P : Program) (μ : Mu) (s : Sem Value) (v : AVal) : Prop := ∀ w, ∃ v', s.run P w = .ok v' w ∧ V μ v v'

theorem ifB_eq {β : Type} {b : Bool} {y n z : β} (h : ifB b y n = z) (hn : n ≠ z) : b = true ∧ y = z := by
  cases b with
  | true => exact ⟨rfl, h⟩
  | false => exact absurd h hn
theorem onO_eq {α β : Type} {o : Option α} {no : β} {k : α → β} {z : β} (h : onO o no k = z) (hn : no ≠ z) : ∃ x, o = some x ∧ k x = z := by
  cases o with
  | none => exact absurd h hn
  | some x => exact ⟨x, rfl, h⟩
theorem RL.on_eq {β : Type} {r : RL} {no : β} {k : List AVal → β} {z : β} (h : r.on no k = z) (hn : no ≠ z) : ∃ l, r = .ok l ∧ k l = z := by
  cases r with
  | no => exact absurd h hn
  | ok l => exact ⟨l, rfl, h⟩
theorem R1.on_eq {β : Type} {r : R1} {no : β} {k : AVal → β} {z : β} (h : r.on no k = z) (hn : no ≠ z) : ∃ l, r = .ok l ∧ k l = z := by
  cases r with
  | no => exact absurd h hn
  | ok l => exact ⟨l, rfl, h⟩

theorem iEq_ok (a b : Int) : iEq a b = (a == b) := by
  have hb : ∀ m n : Nat, Nat.beq m n = (m == n) := fun m n => by rw [Bool.eq_iff_iff]; simp [beq_true]
  cases a with
  | ofNat m =>
    cases b with
    | ofNat n =>
      show Nat.beq m n = _
      rw [hb, Bool.eq_iff_iff]; simp; omega
    | negSucc n => show false = _; rw [eq_comm, beq_eq_false_iff_ne]; simp
  | negSucc m =>
    cases b with
    | ofNat n => show false = _; rw [eq_comm, beq_eq_false_iff_ne]; simp
    | negSucc n =>
      show Nat.beq n m = _
      rw [hb, Bool.eq_iff_iff]; simp only [beq_iff_eq, Int.negSucc.injEq]; exact eq_comm
theorem iLt_ok (a b : Int) : iLt a b = decide (a < b) := by
  have hb : ∀ a b : Nat, Nat.ble (Nat.succ a) b = decide (a < b) := fun a b => by
    rw [Bool.eq_iff_iff, Nat.ble_eq]; simp; omega
  cases a with
  | ofNat m =>
    cases b with
    | ofNat n => show Nat.ble (Nat.succ m) n = _; rw [hb, Bool.eq_iff_iff, decide_eq_true_iff, decide_eq_true_iff]; exact Int.ofNat_lt.symm
    | negSucc n => show false = _; exact (decide_eq_false (by have := Int.negSucc_lt_zero n; have : (0 : Int) ≤ Int.ofNat m := Int.natCast_nonneg m; omega)).symm
  | negSucc m =>
    cases b with
    | ofNat n => show true = _; exact (decide_eq_true (by have := Int.negSucc_lt_zero m; have : (0 : Int) ≤ Int.ofNat n := Int.natCast_nonneg n; omega)).symm
    | negSucc n =>
      show Nat.ble (Nat.succ n) m = _
      rw [hb, Bool.eq_iff_iff, decide_eq_true_iff, decide_eq_true_iff]; omega
theorem wrapF_ok (k : IntKind) (n : Int) : wrapF k n = k.wrap n := by
  cases n with
  | negSucc m => rfl
  | ofNat m =>
    show (Bool.rec (motive := fun _ => Int) (k.wrap (.ofNat m)) (.ofNat m) (Nat.ble m (lim k)) : Int) = _
    cases h : Nat.ble m (lim k) with
    | false => rfl
    | true =>
      rw [Nat.ble_eq] at h
      show (Int.ofNat m) = k.wrap (Int.ofNat m)
      cases k <;> simp only [lim] at h <;> simp only [IntKind.wrap, IntKind.bits, IntKind.signed] <;> simp <;> omega
theorem mkI_eq (k : IntKind) (n : Int) : mkI k n = .ok (.int k (k.wrap n)) := by simp [mkI, wrapF_ok]
theorem mkB_eq (b : Bool) : mkB b = .ok (.bool b) := by cases b <;> rfl
theorem mkS_eq (n l : Nat) : mkS n l = .ok (.str n l) := by simp [mkS]
theorem kEq_ok {a b : IntKind} (h : kEq a b = true) : a = b := by cases a <;> cases b <;> first | rfl | (exact absurd h (by decide))

section
variable {P : Program} {μ : Mu}

theorem strV {n l : Nat} {y : Value} (h : V μ (.str n l) y) : ∃ s : ByteArray, y = .string s ∧ n = packL s.data.toList 0 ∧ l = s.data.toList.length := by
  cases h with | str s => exact ⟨s, rfl, rfl, rfl⟩
theorem V.str_of {s : ByteArray} {n l : Nat} (hn : n = packL s.data.toList 0) (hl : l = s.data.toList.length) : V μ (.str n l) (.string s) := by subst hn hl; exact .str s

theorem pick_ok {c a b v : AVal} {c' a' b' : Value} (h : pickA c a b = .ok v) (hc : V μ c c') (ha : V μ a a') (hb : V μ b b') :
    Gives P μ (do pure (if ← asBool c' then a' else b')) v := by
  intro w
  cases c with
  | bool x =>
    cases hc
    have : ifB x a b = v := by simpa [pickA] using h
    subst this
    cases x with
    | true => exact ⟨a', by simp [asBool], ha⟩
    | false => exact ⟨b', by simp [asBool], hb⟩
  | _ => simp [pickA] at h

theorem nilCheck_ok {x v : AVal} {x' : Value} (h : nilCheckA x = .ok v) (hx : V μ x x') : v = x ∧ ((∃ a, x' = .pointer (some a)) ∨ ∃ f c, x' = .func (.func f) #[] c) := by
  cases x with
  | ptr b o =>
    simp [nilCheckA] at h
    refine ⟨h.symm, .inl ?_⟩
    cases hx with
    | ptr _ _ rb sh sz hm => exact ⟨_, rfl⟩
    | ptrDead _ _ a hm => exact ⟨a, rfl⟩
  | func f c =>
    simp [nilCheckA] at h
    refine ⟨h.symm, .inr ?_⟩
    cases hx with
    | func _ _ a hl => exact ⟨f, a, rfl⟩
  | _ => simp [nilCheckA] at h

theorem un_ok {op : UnOp} {x v : AVal} {x' : Value} (h : unA op x = .ok v) (hx : V μ x x') : Gives P μ (Op.unary op x') v := by
  intro w
  cases x with
  | bool b =>
    cases hx
    cases op <;> simp [unA, mkB_eq] at h
    subst h
    exact ⟨.bool (!b), by simp [Op.unary], .bool _⟩
  | int k n =>
    cases hx
    cases op <;> simp [unA, mkI_eq] at h
    subst h
    exact ⟨.int k (k.wrap (0 - n)), by simp [Op.unary, Op.intArith], .int k _⟩
  | _ => simp [unA] at h

theorem byteArray_beq (a b : ByteArray) : (a == b) = (a.data.toList == b.data.toList) := by
  show (a.data == b.data) = _
  rw [Bool.eq_iff_iff]
  simp [Array.toList_inj]
theorem not_lt_le (a b : Int) : (!decide (b < a)) = decide (a ≤ b) := by
  by_cases h : b < a
  · simp [h]
  · simp [h]; omega
theorem bin_int {op : BinOp} {k : IntKind} {a b : Int} {v : AVal} (h : binII op k a b = .ok v) (t : TypeId) (k' : IntKind) (hk : k' = k ∨ op = .shl ∨ op = .shr) : Gives P μ (binOp op t (.int k a) (.int k' b)) v := by
  intro w
  have hz : ∀ n : Int, iEq n 0 = (n == 0) := fun n => iEq_ok n 0
  cases op with
  | shl =>
    simp only [binII, iLt_ok] at h
    cases hb : decide (b < 0) with
    | true => rw [hb] at h; simp at h
    | false =>
      rw [hb] at h; simp [mkI_eq] at h; subst h
      have hb' : ¬ b < 0 := by simpa using hb
      refine ⟨_, ?_, .int k _⟩
      simp [binOp, Op.shift, hb']
  | shr =>
    simp only [binII, iLt_ok] at h
    cases hb : decide (b < 0) with
    | true => rw [hb] at h; simp at h
    | false =>
      rw [hb] at h; simp at h; subst h
      have hb' : ¬ b < 0 := by simpa using hb
      refine ⟨_, ?_, .int k _⟩
      simp [binOp, Op.shift, hb']
  | _ =>
    obtain rfl : k' = k := by rcases hk with h | h | h <;> first | exact h | simp at h
    simp only [binII, hz, mkI_eq, mkB_eq, iEq_ok, iLt_ok, not_lt_le] at h
    first
      | (simp at h; subst h; exact ⟨_, by simp [binOp, Op.intArith, Op.intCmp, Op.intBits]; try rfl, by first | exact .int _ _ | exact .bool _⟩)
      | (cases hb : (b == 0) with
        | true => rw [hb] at h; simp at h
        | false =>
          rw [hb] at h; simp at h; subst h
          have hb' : ¬ b = 0 := by simpa using hb
          exact ⟨_, by simp [binOp, Op.intDiv, hb']; try rfl, .int _ _⟩)

theorem eqD_ok {d : TypeDesc} {x y : AVal} {x' y' : Value} {r : Bool} (h : eqD d x y = some r) (hx : V μ x x') (hy : V μ y y') {t : TypeId} (ht : P.underlying t = some d) (n : Nat) (w : World) :
    (Op.equalIn (n + 1) t x' y').run P w = .ok r w := by
  unfold eqD at h
  split at h
  · split at h
    · cases hx; cases hy; simp only [Option.some.injEq] at h; subst h
      simp only [Op.equalIn, Sem.run_bind, run_underlying ht, Result.andThen_ok]; rfl
    · exact absurd h (by simp)
  · split at h
    · rename_i k1 a k2 b
      obtain ⟨hk, h2⟩ := ifB_eq h (by simp)
      have := kEq_ok hk; subst this
      clear h
      simp only [Option.some.injEq, iEq_ok] at h2
      cases hx; cases hy; subst h2
      simp only [Op.equalIn, Sem.run_bind, run_underlying ht, Result.andThen_ok, if_true]; rfl
    · exact absurd h (by simp)
  · split at h
    · obtain ⟨s, rfl, rfl, rfl⟩ := strV hx
      obtain ⟨s', rfl, rfl, rfl⟩ := strV hy
      simp only [Option.some.injEq, strEq_ok] at h; subst h
      simp only [Op.equalIn, Sem.run_bind, run_underlying ht, Result.andThen_ok]
      rw [← byteArray_beq]; rfl
    · exact absurd h (by simp)
  · split at h <;> first
      | (simp only [Option.some.injEq] at h; subst h; cases hx <;> cases hy <;> (simp only [Op.equalIn, Sem.run_bind, run_underlying ht, Result.andThen_ok]; rfl))
      | exact absurd h (by simp)
  · split at h <;> first
      | (simp only [Option.some.injEq] at h; subst h; cases hx <;> cases hy <;> (simp only [Op.equalIn, Sem.run_bind, run_underlying ht, Result.andThen_ok]; rfl))
      | exact absurd h (by simp)
  · split at h <;> first
      | (simp only [Option.some.injEq] at h; subst h; cases hx <;> cases hy <;> (simp only [Op.equalIn, Sem.run_bind, run_underlying ht, Result.andThen_ok]; rfl))
      | exact absurd h (by simp)
  · split at h <;> first
      | (simp only [Option.some.injEq] at h; subst h; cases hx <;> cases hy <;> (simp only [Op.equalIn, Sem.run_bind, run_underlying ht, Result.andThen_ok]; rfl))
      | exact absurd h (by simp)
  · exact absurd h (by simp)

theorem bin_str {op : BinOp} {s s' : ByteArray} {v : AVal} (h : binSS op (packL s.data.toList 0) s.data.toList.length (packL s'.data.toList 0) s'.data.toList.length = .ok v) (t : TypeId) :
    Gives P μ (binOp op t (.string s) (.string s')) v := by
  intro w
  have hlt : ∀ a b : ByteArray, strLt (packL a.data.toList 0) a.data.toList.length (packL b.data.toList 0) b.data.toList.length = Op.bytesLess a.toList b.toList := fun a b => by
    rw [strLt_ok, ByteArray.toList_eq, ByteArray.toList_eq]
  have heq : strEq (packL s.data.toList 0) s.data.toList.length (packL s'.data.toList 0) s'.data.toList.length = (s.toList == s'.toList) := by
    rw [strEq_ok, ByteArray.toList_eq, ByteArray.toList_eq]
  have tri : ∀ l m : List UInt8, (!Op.bytesLess m l) = (Op.bytesLess l m || (l == m)) := by
    intro l
    induction l with
    | nil => intro m; cases m <;> simp [Op.bytesLess]
    | cons a l ih =>
      intro m
      cases m with
      | nil => simp [Op.bytesLess]
      | cons b m =>
        simp only [Op.bytesLess]
        by_cases e : a = b
        · subst e
          have : ¬ a < a := by rw [UInt8.lt_iff_toNat_lt]; omega
          have := ih m
          simp_all
        · have hne : a.toNat ≠ b.toNat := fun h => e (UInt8.toNat_inj.1 h)
          have e' : ¬ b = a := fun h => e h.symm
          have hab : decide (a < b) = !decide (b < a) := by
            simp only [UInt8.lt_iff_toNat_lt]
            by_cases h : a.toNat < b.toNat
            · simp [h]; omega
            · simp [h]; omega
          have e3 : (a == b) = false := by simpa using e
          have e4 : (b == a) = false := by simpa using e'
          have e5 : (a :: l == b :: m) = false := by simp [e]
          rw [e3, e4, e5, hab]
          simp
  cases op <;> simp only [binSS, mkS_eq, mkB_eq, hlt, heq, R1.ok.injEq] at h
  case add =>
    obtain ⟨hl, h⟩ := ifB_eq h (by simp)
    have hl' : s.data.toList.length + s'.data.toList.length ≤ 1073741824 := ble_true.1 hl
    simp only [R1.ok.injEq] at h
    subst h
    refine ⟨.string (s ++ s'), ?_, V.str_of ?_ ?_⟩
    · have : ¬ ((s.size + s'.size : Nat) : Int) > IntKind.i64.max := by
        have e1 : s.size = s.data.toList.length := rfl
        have e2 : s'.size = s'.data.toList.length := rfl
        rw [e1, e2, IntKind.max_i64]; omega
      simp only [binOp, Op.stringOp]
      rw [if_neg this]; rfl
    · have : (s ++ s').data.toList = s.data.toList ++ s'.data.toList := by simp
      rw [this, packL_append]; rfl
    · have : (s ++ s').data.toList = s.data.toList ++ s'.data.toList := by simp
      rw [this, List.length_append]; rfl
  case eql => subst h; exact ⟨_, rfl, .bool _⟩
  case neq => subst h; exact ⟨_, rfl, .bool _⟩
  case lss => subst h; exact ⟨_, rfl, .bool _⟩
  case leq => subst h; exact ⟨_, rfl, by rw [tri]; exact .bool _⟩
  case gtr => subst h; exact ⟨_, rfl, by
    have := tri s.toList s'.toList
    rw [← this, Bool.not_not]; exact .bool _⟩
  case geq => subst h; exact ⟨_, rfl, .bool _⟩
  all_goals simp at h
end
end Go.Ev
namespace Go.Ev
set_option linter.unusedVariables false
set_option linter.unusedSimpArgs false

structure PlainOK (P : Program) (E : Env) : Prop where
  held : ∀ t, E.plain t = true → P.stoodInHeld t = false
  guard : ∀ t, E.plain t = true → P.eqGuardType P.depth t = false

/-- a value of so many cells: one cell, or an aggregate -/
def valOf (ag : Bool) (xs : List Value) : Value := if ag then .agg xs.toArray else xs.headD undef

theorem eqK_split {ds1 ds2 : List TypeDesc} {l m : List AVal} {r : Bool} (h : eqK (ds1 ++ ds2) l m = some r) :
    (eqK ds1 (l.take ds1.length) (m.take ds1.length) = some false ∧ r = false) ∨
    (eqK ds1 (l.take ds1.length) (m.take ds1.length) = some true ∧ eqK ds2 (l.drop ds1.length) (m.drop ds1.length) = some r) := by
  induction ds1 generalizing l m with
  | nil => exact .inr ⟨rfl, by simpa using h⟩
  | cons d ds1 ih =>
    cases l with
    | nil => simp [eqK] at h
    | cons x l =>
      cases m with
      | nil => simp [eqK] at h
      | cons y m =>
        simp only [List.cons_append, eqK] at h
        simp only [List.length_cons, List.take_succ_cons, List.drop_succ_cons, eqK]
        cases e : eqD d x y with
        | none => rw [e] at h; simp at h
        | some b =>
          rw [e] at h
          cases b with
          | true => simp only at h ⊢; exact ih h
          | false => simp at h; subst h; exact .inl ⟨rfl, rfl⟩


theorem flat_succ {E : Env} {n : Nat} {t : TypeId} {ks : List TypeDesc} (h : flat E (n + 1) t = some ks) :
    ∃ ag, tyO E t = some (ag, ks.length) ∧ ((ag = false ∧ ∃ d, und E t = d ∧ ks = [d] ∧ (d = .string ∨ d = .bool ∨ ∃ k, d = .int k)) ∨
      (ag = true ∧ ∃ fs, und E t = .struct fs ∧ E.plain t = true ∧ flatFs (flat E n) fs.toList 0 = some ks)) := by
  obtain ⟨ti, h1, h2⟩ := onO_eq (show onO (tyO E t) none _ = some ks from h) (by simp)
  obtain ⟨ks', h3, h4⟩ := onO_eq h2 (by simp)
  obtain ⟨h5, h6⟩ := ifB_eq h4 (by simp)
  simp at h6; subst h6
  have hl := beq_true.1 h5
  obtain ⟨ag, sz⟩ := ti
  refine ⟨ag, by rw [h1, hl], ?_⟩
  have hag : ag = (match und E t with | .struct _ => true | .array _ _ => true | _ => false) := by
    unfold tyO at h1
    cases hi : E.info t with
    | none => rw [hi] at h1; simp at h1
    | some i => rw [hi] at h1; simp only at h1; split at h1 <;> simp_all
  split at h3
  · rename_i e; rw [e] at hag; simp at h3; exact .inl ⟨hag, _, rfl, by rw [e]; exact h3.symm, .inl e⟩
  · rename_i e; rw [e] at hag; simp at h3; exact .inl ⟨hag, _, rfl, by rw [e]; exact h3.symm, .inr (.inl e)⟩
  · rename_i k e; rw [e] at hag; simp at h3; exact .inl ⟨hag, _, rfl, by rw [e]; exact h3.symm, .inr (.inr ⟨k, e⟩)⟩
  · rename_i fs e
    rw [e] at hag
    obtain ⟨a, b⟩ := ifB_eq h3 (by simp)
    exact .inr ⟨hag, fs, e, a, b⟩
  · simp at h3

section
variable {P : Program} {E : Env} (hE : EnvOK P E) (hP : PlainOK P E) {μ : Mu}
include hE hP

omit hP in
theorem eqFields_ok {n d : Nat} (ih : ∀ t ks, flat E n t = some ks → ∀ (l m : List AVal) (xs ys : List Value) (r ag : Bool), tyO E t = some (ag, ks.length) → eqK ks l m = some r → VL μ l xs → VL μ m ys → l.length = ks.length → m.length = ks.length →
      ∀ w, (Op.equalIn (n + d) t (valOf ag xs) (valOf ag ys)).run P w = .ok r w)
    (l m : List AVal) (xs ys : List Value) (hx : VL μ l xs) (hy : VL μ m ys) (hlm : l.length = m.length) :
    ∀ (fs : List Field) (off : Nat) (ks : List TypeDesc) (r : Bool), flatFs (flat E n) fs off = some ks → eqK ks (l.drop off) (m.drop off) = some r → off + ks.length = l.length →
      ∀ w, (Op.eqFields (n + d) xs.toArray ys.toArray fs).run P w = .ok r w := by
  intro fs
  induction fs with
  | nil =>
    intro off ks r h he hl w
    have hks : ks = [] := by
      have : some ([] : List TypeDesc) = some ks := h
      simpa using this.symm
    subst hks
    have h1 : l.drop off = [] := by apply List.drop_eq_nil_of_le; simp at hl; omega
    have h2 : m.drop off = [] := by apply List.drop_eq_nil_of_le; simp at hl; omega
    rw [h1, h2] at he
    simp [eqK] at he
    subst he
    simp [Op.eqFields]
  | cons f fs ihf =>
    intro off ks r h he hl w
    obtain ⟨h1, h2⟩ := ifB_eq (show ifB (Bool.not (f.name == "_") && Nat.beq f.offset off) (onO (flat E n f.type) none fun ks => onO (flatFs (flat E n) fs (off + ks.length)) none fun l => some (ks ++ l)) none = some ks from h) (by simp)
    obtain ⟨k1, h3, h4⟩ := onO_eq h2 (by simp)
    obtain ⟨k2, h5, h6⟩ := onO_eq h4 (by simp)
    simp at h6; subst h6
    rw [Bool.and_eq_true] at h1
    have hname : f.name ≠ "_" := by have := h1.1; simpa using this
    have hoff : f.offset = off := beq_true.1 h1.2
    cases n with
    | zero => simp [flat] at h3
    | succ n =>
    obtain ⟨ag, hty, hform⟩ := flat_succ h3
    have hlx := hx.length
    have hly := hy.length
    simp only [List.length_append] at hl
    have hpart : ∀ (zs : List Value), off + k1.length ≤ zs.length → ∀ w, (part f.type zs.toArray f.offset).run P w = .ok (valOf ag ((zs.drop off).take k1.length)) w := by
      intro zs hz w
      simp only [part, Sem.run_bind, run_isAgg_ok hE hty, Result.andThen_ok]
      cases ag with
      | true =>
        simp only [if_true, Sem.run_bind, run_sizeOf_ok hE hty, Result.andThen_ok, valOf, hoff]
        simp [List.extract_toArray, List.take_drop]
      | false =>
        have h1' : k1.length = 1 := by
          rcases hform with ⟨_, dd, _, e, _⟩ | ⟨e, _⟩
          · rw [e]; rfl
          · simp at e
        rw [h1'] at hz ⊢
        simp only [Bool.false_eq_true, if_false, valOf, hoff]
        have hz' : off < zs.length := by omega
        have e1 : (zs.drop off).take 1 = [zs[off]] := by rw [List.drop_eq_getElem_cons hz']; rfl
        rw [e1]
        simp [hz']
    simp only [Op.eqFields, hname, ne_eq, not_false_eq_true, if_true, Sem.run_bind, hpart xs (by omega), hpart ys (by omega), Result.andThen_ok]
    have hx1 : VL μ ((l.drop off).take k1.length) ((xs.drop off).take k1.length) := (hx.drop off).take _
    have hy1 : VL μ ((m.drop off).take k1.length) ((ys.drop off).take k1.length) := (hy.drop off).take _
    have e1 : ((l.drop off).take k1.length).length = k1.length := by simp; omega
    have e2 : ((m.drop off).take k1.length).length = k1.length := by simp; omega
    rcases eqK_split he with ⟨hf, rfl⟩ | ⟨hf, hr⟩
    · rw [ih f.type k1 h3 _ _ _ _ false ag hty hf hx1 hy1 e1 e2 w]
      simp
    · rw [ih f.type k1 h3 _ _ _ _ true ag hty hf hx1 hy1 e1 e2 w]
      simp only [Result.andThen_ok, Bool.not_true, Bool.false_eq_true, if_false]
      exact ihf (off + k1.length) k2 r h5 (by rw [← List.drop_drop, ← List.drop_drop]; exact hr) (by omega) w

theorem flat_eq {d : Nat} : ∀ (n : Nat) (t : TypeId) (ks : List TypeDesc), flat E n t = some ks → ∀ (l m : List AVal) (xs ys : List Value) (r ag : Bool), tyO E t = some (ag, ks.length) → eqK ks l m = some r → VL μ l xs → VL μ m ys →
    l.length = ks.length → m.length = ks.length → ∀ w, (Op.equalIn (n + d) t (valOf ag xs) (valOf ag ys)).run P w = .ok r w := by
  intro n
  induction n with
  | zero => intro t ks h; simp [flat] at h
  | succ n ih =>
    intro t ks h l m xs ys r ag hty he hx hy hl hm w
    obtain ⟨ag', hty', hform⟩ := flat_succ h
    rw [hty] at hty'
    obtain rfl : ag = ag' := by simpa using hty'
    rcases hform with ⟨rfl, dd, hd, rfl, hk⟩ | ⟨rfl, fs, hd, hpl, hfs⟩
    · have hund : P.underlying t = some dd := und_ok hE hd (by rcases hk with rfl | rfl | ⟨k, rfl⟩ <;> simp)
      match l, m, hx, hy with
      | [x], [y], .cons _ x' _ _ hx0 .nil, .cons _ y' _ _ hy0 .nil =>
        have : eqD dd x y = some r := by
          simp only [eqK] at he
          cases e : eqD dd x y with
          | none => rw [e] at he; simp at he
          | some b => rw [e] at he; cases b <;> simp at he <;> simp [he]
        have := eqD_ok this hx0 hy0 hund (n + d) w
        rw [show n + 1 + d = n + d + 1 by omega]
        exact this
      | [], _, _, _ => simp at hl
      | [_], [], _, _ => simp at hm
      | [_], _ :: _ :: _, _, _ => simp at hm
      | _ :: _ :: _, _, _, _ => simp at hl
    · have hund : P.underlying t = some (.struct fs) := und_ok hE hd (by simp)
      have hff : P.fieldsOf t = fs := by simp [Program.fieldsOf, hund]
      rw [show n + 1 + d = n + d + 1 by omega]
      show (Op.equalIn (n + d + 1) t (.agg xs.toArray) (.agg ys.toArray)).run P w = _
      rw [run_equalIn_agg w (n + d) t _ _ (by rw [hff]; exact hund) (hP.held t hpl), hff]
      exact eqFields_ok hE ih l m xs ys hx hy (by omega) fs.toList 0 ks r hfs (by simpa using he) (by omega) w

omit hE hP in
theorem eqD_not_agg {d : TypeDesc} {x y : AVal} {x' : Value} {r : Bool} (h : eqD d x y = some r) (hx : V μ x x') : (∀ a, x' ≠ .agg a) ∧ x' ≠ .nilIface := by
  refine ⟨?_, ?_⟩
  · rintro a rfl
    cases hx with
    | agg l _ h' _ => unfold eqD at h; split at h <;> simp at h
    | unk _ h' => exact h'.elim
    | bad _ => unfold eqD at h; split at h <;> simp at h
  · rintro rfl
    cases hx <;> (unfold eqD at h; split at h <;> simp at h)

/-- '==' of two values of a type, as a map asks it, and as '==' does -/
theorem eqTA_ok {t : TypeId} {x y : AVal} {x' y' : Value} {r : Bool} (h : eqTA E t x y = some r) (hx : V μ x x') (hy : V μ y y') :
    (∀ w, (Op.equal t x' y').run P w = .ok r w) ∧ (∀ op a b w, (eqGuard op t a b x' y').run P w = .ok () w) := by
  have plain : ∀ d, und E t = d → (match d with | .struct _ => False | _ => True) → eqD d x y = some r → (∀ w, (Op.equal t x' y').run P w = .ok r w) ∧ (∀ op a b w, (eqGuard op t a b x' y').run P w = .ok () w) := by
    intro d hd hs h
    have hne := eqD_not_agg h hx
    have hund : P.underlying t = some d := und_ok hE hd (by rintro rfl; simp [eqD] at h)
    refine ⟨fun w => eqD_ok h hx hy hund 9999 w, fun op a b w => ?_⟩
    unfold eqGuard
    have h1 := hne.1
    have h2 := hne.2
    cases x' <;> first
      | exact absurd rfl (h1 _)
      | exact absurd rfl h2
      | (cases op <;> rfl)
  unfold eqTA at h
  cases hd : und E t
  case struct fs =>
    rw [hd] at h
    simp only at h
    cases hf : flat E 6 t with
    | none => rw [hf] at h; simp at h
    | some ks =>
      rw [hf] at h
      simp only [onO_some] at h
      split at h
      · split at h
        · rename_i l _ m
          obtain ⟨hlen, h⟩ := ifB_eq h (by simp)
          rw [Bool.and_eq_true] at hlen
          have hl := beq_true.1 hlen.1
          have hm := beq_true.1 hlen.2
          obtain ⟨ag, hty, hform⟩ := flat_succ (n := 5) hf
          rcases hform with ⟨_, dd, hd', _, hk⟩ | ⟨rfl, fs', hd', hpl, hfs⟩
          · rw [hd] at hd'; subst hd'; rcases hk with h' | h' | ⟨k, h'⟩ <;> simp at h'
          · cases hx with
            | agg _ xa hxl _ =>
              cases hy with
              | agg _ ya hyl _ =>
                refine ⟨fun w => ?_, fun op a b w => run_eqGuard_agg w op t a b xa ya (hP.guard t hpl)⟩
                have := flat_eq hE hP (d := 9994) 6 t ks hf l m xa.toList ya.toList r true hty h hxl hyl hl hm w
                show (Op.equalIn 10000 t (.agg xa) (.agg ya)).run P w = _
                simpa [valOf] using this
        · simp at h
      · simp at h
  all_goals
    rw [hd] at h
    exact plain _ hd trivial h
end
end Go.Ev
namespace Go.Ev
set_option linter.unusedVariables false
set_option linter.unusedSimpArgs false

/-- a value that '==' asks 'Op.equal' of -/
def Asked (x : Value) : Prop := match x with | .bool _ | .pointer _ | .slice .. | .map _ | .func .. | .nilFunc | .iface .. | .nilIface | .agg _ => True | _ => False
theorem binOp_asked {x : Value} (hx : Asked x) (t : TypeId) (y : Value) : binOp .eql t x y = (do pure (.bool (← Op.equal t x y))) ∧ binOp .neq t x y = (do pure (.bool (!(← Op.equal t x y)))) := by
  cases x <;> first | exact hx.elim | exact ⟨rfl, rfl⟩ | (cases y <;> exact ⟨rfl, rfl⟩)
theorem asked_of {E : Env} {μ : Mu} {t : TypeId} {x y : AVal} {x' : Value} {r : Bool} (h : eqTA E t x y = some r) (hx : V μ x x') (hn : (∀ k n, x ≠ .int k n) ∧ (∀ n l, x ≠ .str n l)) : Asked x' := by
  cases hx <;> first
    | trivial
    | exact absurd rfl (hn.1 _ _)
    | exact absurd rfl (hn.2 _ _)
    | (exfalso
       unfold eqTA at h
       cases hd : und E t <;> rw [hd] at h <;> simp only [eqD] at h <;> first
         | (simp at h; done)
         | (cases hf : flat E 6 t <;> rw [hf] at h <;> simp at h; done)
         | (cases y <;> simp at h; done))
section
variable {P : Program} {E : Env} (hE : EnvOK P E) (hP : PlainOK P E) {μ : Mu}
include hE hP

theorem bin_ok {t : TypeId} {op : BinOp} {x y v : AVal} {x' y' : Value} (h : binA E t op x y = .ok v) (hx : V μ x x') (hy : V μ y y') (a b : Operand) :
    Gives P μ (do eqGuard op t a b x' y'; binOp op t x' y') v := by
  intro w
  have other : binXX E t op x y = .ok v → (∀ k n, x ≠ .int k n) ∧ (∀ n l, x ≠ .str n l) → ∃ v', (do eqGuard op t a b x' y'; binOp op t x' y').run P w = .ok v' w ∧ V μ v v' := by
    intro h hn
    cases op <;> simp only [binXX] at h <;> try (simp at h; done)
    · obtain ⟨r, hr, h2⟩ := onO_eq (show onO (eqTA E t x y) .no mkB = .ok v from h) (by simp)
      rw [mkB_eq] at h2; simp at h2; subst h2
      obtain ⟨h3, h4⟩ := eqTA_ok hE hP hr hx hy
      refine ⟨.bool r, ?_, .bool r⟩
      rw [(binOp_asked (asked_of hr hx hn) t y').1]
      simp [h3, h4]
    · obtain ⟨r, hr, h2⟩ := onO_eq (show onO (eqTA E t x y) .no (fun b => mkB (Bool.not b)) = .ok v from h) (by simp)
      rw [mkB_eq] at h2; simp at h2; subst h2
      obtain ⟨h3, h4⟩ := eqTA_ok hE hP hr hx hy
      refine ⟨.bool (!r), ?_, .bool _⟩
      rw [(binOp_asked (asked_of hr hx hn) t y').2]
      simp [h3, h4]
  have quiet : ∀ s : Sem Value, eqGuard op t a b x' y' = pure () → (∃ v', s.run P w = .ok v' w ∧ V μ v v') → ∃ v', (do eqGuard op t a b x' y'; s).run P w = .ok v' w ∧ V μ v v' := by
    intro s hq ⟨v', h1, h2⟩
    exact ⟨v', by rw [hq]; simpa using h1, h2⟩
  unfold binA at h
  split at h
  · rename_i k n
    cases hx
    split at h
    · rename_i k' m
      cases hy
      obtain ⟨hk, h⟩ := ifB_eq h (by simp)
      refine quiet _ (eqGuard_at_int ..) (bin_int h t k' ?_ w)
      rw [Bool.or_eq_true] at hk
      rcases hk with hk | hk
      · cases op <;> simp [isSh] at hk <;> simp
      · exact .inl (kEq_ok hk).symm
    · simp at h
  · obtain ⟨s, rfl, rfl, rfl⟩ := strV hx
    split at h
    · obtain ⟨s', rfl, rfl, rfl⟩ := strV hy
      exact quiet _ (eqGuard_at_string ..) (bin_str h t w)
    · simp at h
  · cases hx
    split at h
    · cases hy
      rename_i n m
      refine quiet _ (eqGuard_at_float ..) ?_
      cases op <;> simp only [binFF] at h <;> try (simp at h; done)
      split at h
      · rename_i r hr
        simp at h; subst h
        refine ⟨.float .f64 r, ?_, .float r⟩
        simp only [binOp, Op.floatArith, ne_eq, not_true_eq_false, if_false]
        simp [hr]
      · simp at h
    · simp at h
  · rename_i u m r
    cases op <;> simp only [binRes] at h <;> try (simp at h; done)
    cases y <;> simp only [] at h <;> try (simp at h; done)
    rename_i k n
    cases n with
    | negSucc n => simp at h
    | ofNat d =>
      obtain ⟨h1, hv⟩ := ifB_eq h (by simp)
      clear h
      rw [Bool.and_eq_true, Bool.and_eq_true, Bool.and_eq_true, ble_true, beq_true] at h1
      obtain ⟨rfl, h2, h3, h4⟩ := h1
      obtain rfl := kEq_ok h2
      obtain rfl := R1.ok_inj hv
      cases hx with
      | resU _ _ x hxr =>
      cases hy
      refine quiet _ (eqGuard_at_int ..) ⟨.int .u64 ((x % d : Nat) : Int), ?_, ?_⟩
      · have hd : ¬ ((d : Int) = 0) := by omega
        have ht : Int.tmod (x : Int) (d : Int) = ((x % d : Nat) : Int) := by rw [Int.ofNat_tmod]
        have hd2 : d ≠ 0 := by omega
        simp only [binOp, ne_eq, not_true_eq_false, if_false, Op.intDiv]
        simp [hd2]
        rw [ht]; exact Int.natCast_emod x d
      · have : x % d = r % d := by rw [← hxr, Nat.mod_mod_of_dvd x (Nat.dvd_of_mod_eq_zero h4)]
        rw [this]; exact .int .u64 _
  · rename_i n1 n2 n3 n4
    exact other h ⟨fun k n e => by subst e; exact n1 k n rfl, fun n l e => by subst e; exact n2 n l rfl⟩
end
end Go.Ev
namespace Go.Ev
set_option linter.unusedVariables false
set_option linter.unusedSimpArgs false

theorem asN_ok {x : AVal} {n : Nat} (h : asN x = some n) : ∃ k, x = .int k (n : Int) := by
  unfold asN at h
  split at h
  · rename_i k m
    split at h
    · simp at h; subst h; exact ⟨k, rfl⟩
    · simp at h
  · simp at h
theorem asN_V {μ : Mu} {x : AVal} {x' : Value} {n : Nat} (h : asN x = some n) (hx : V μ x x') : ∃ k, x' = .int k (n : Int) := by
  obtain ⟨k, rfl⟩ := asN_ok h
  cases hx; exact ⟨k, rfl⟩
theorem utf8_fin : ∀ m : Fin 128, (Utf8.encode (m.val : Int)).data.toList = [UInt8.ofNat m.val] := by decide +kernel
theorem utf8_ascii (n : Nat) (h : n ≤ 127) : (Utf8.encode (n : Int)).data.toList = [UInt8.ofNat n] := by
  have h2 := utf8_fin ⟨n, by omega⟩
  dsimp only at h2
  exact h2

section
variable {P : Program} {E : Env} (hE : EnvOK P E) {μ : Mu}
include hE

theorem conv_pure {s d : TypeId} {c : CK} {h h' : Heap} {x v : AVal} {x' : Value} (hc : convK E s d = some c) (hv : convA c h x = .ok v h') (hx : V μ x x') (hp : (∃ k, c = .int k) ∨ c = .istr ∨ c = .f64 ∨ c = .sstr) :
    h' = h ∧ Gives P μ (convert s d x') v := by
  unfold convK at hc
  split at hc
  case h_1 k0 hs =>
    have us := und_ok hE hs (by simp)
    split at hc
    · rename_i k hd
      have ud := und_ok hE hd (by simp)
      simp at hc; subst hc
      cases x <;> simp only [convA] at hv <;> try (simp at hv; done)
      · cases hx
        rw [mkI_eq] at hv
        obtain ⟨rfl, rfl⟩ := R2.ok_inj hv
        refine ⟨rfl, fun w => ⟨_, ?_, .int _ _⟩⟩
        simp only [convert, Sem.run_bind, run_underlying us, run_underlying ud, Result.andThen_ok]; rfl
      · rename_i u m r
        obtain ⟨h1, h2⟩ := ifB_eq hv (by simp)
        rw [Bool.and_eq_true] at h1
        obtain ⟨h3, h4⟩ := h1
        have hk : k = .u64 := eq_of_beq h4
        subst hk
        obtain ⟨rfl, rfl⟩ := R2.ok_inj h2
        cases hx with
        | resU _ _ x h => simp at h3
        | resI _ _ x h =>
        have hw : IntKind.u64.wrap x = ((IntKind.u64.wrap x).toNat : Int) := by
          have : 0 ≤ IntKind.u64.wrap x := by
            simp only [IntKind.wrap, IntKind.signed, IntKind.bits]
            simp
            exact Int.emod_nonneg _ (by decide)
          omega
        refine ⟨rfl, fun w => ⟨.int .u64 ((IntKind.u64.wrap x).toNat : Int), ?_, .resU _ _ _ ?_⟩⟩
        · simp only [convert, Sem.run_bind, run_underlying us, run_underlying ud, Result.andThen_ok]
          rw [← hw]; rfl
        · rw [hw] at h
          exact Int.ofNat_inj.1 (by rw [Int.natCast_emod]; exact h)
    · rename_i hd
      have ud := und_ok hE hd (by simp)
      simp at hc; subst hc
      cases x <;> simp only [convA] at hv <;> try (simp at hv; done)
      cases hx
      split at hv
      · rename_i n
        obtain ⟨hn, hv⟩ := ifB_eq hv (by simp)
        obtain ⟨rfl, rfl⟩ := R2.ok_inj hv
        have hn := ble_true.1 hn
        refine ⟨rfl, fun w => ⟨.string (Utf8.encode (n : Int)), ?_, ?_⟩⟩
        · simp only [convert, Sem.run_bind, run_underlying us, run_underlying ud, Result.andThen_ok]; rfl
        · refine V.str_of ?_ ?_
          · rw [utf8_ascii n hn]
            have : packL [UInt8.ofNat n] 0 = (UInt8.ofNat n).toNat := by simp [packL]
            rw [this, UInt8.toNat_ofNat']; omega
          · rw [utf8_ascii n hn]; rfl
      · simp at hv
    · rename_i hd
      have ud := und_ok hE hd (by simp)
      simp at hc; subst hc
      cases x <;> simp only [convA] at hv <;> try (simp at hv; done)
      cases hx
      obtain ⟨rfl, rfl⟩ := R2.ok_inj hv
      refine ⟨rfl, fun w => ⟨_, ?_, .float _⟩⟩
      simp only [convert, Sem.run_bind, run_underlying us, run_underlying ud, Result.andThen_ok]; rfl
    · simp at hc
  case h_2 hs =>
    have us := und_ok hE hs (by simp)
    split at hc
    · rename_i hd
      have ud := und_ok hE hd (by simp)
      simp at hc; subst hc
      cases x <;> simp only [convA] at hv <;> try (simp at hv; done)
      obtain ⟨rfl, rfl⟩ := R2.ok_inj hv
      obtain ⟨s0, rfl, rfl, rfl⟩ := strV hx
      refine ⟨rfl, fun w => ⟨.string s0, ?_, .str _⟩⟩
      simp only [convert, Sem.run_bind, run_underlying us, run_underlying ud, Result.andThen_ok]; rfl
    · obtain ⟨_, hc⟩ := ifB_eq hc (by simp)
      simp at hc; subst hc; simp at hp
    · simp at hc
  all_goals
    first
      | (simp at hc; done)
      | (split at hc <;> first
          | (simp at hc; done)
          | (obtain ⟨_, hc⟩ := ifB_eq hc (by simp); simp at hc; subst hc; simp at hp)
          | (obtain ⟨_, _, hc⟩ := onO_eq hc (by simp); obtain ⟨_, hc⟩ := ifB_eq hc (by simp); simp at hc; subst hc; simp at hp))

/-! slices -/
def optV (a : Act) (x : Option Operand) : Option Value := x.map a.eval
omit hE in
theorem optN_ok {tm : Loc} {a : Act} {x : Option Operand} {d n : Nat} (h : optN x d tm = some n) (hx : ∀ y, x = some y → V μ (opnd y tm) (a.eval y)) :
    (x = none ∧ n = d) ∨ ∃ y k, x = some y ∧ a.eval y = .int k (n : Int) := by
  cases x with
  | none => simp [optN] at h; exact .inl ⟨rfl, h.symm⟩
  | some y =>
    obtain ⟨k, hk⟩ := asN_V (show asN (opnd y tm) = some n from h) (hx y rfl)
    exact .inr ⟨y, k, rfl, hk⟩
omit hE in
theorem bounds_ok {isS : Bool} {len cap l u m : Nat} {lo hi mx : Option Value} (hlo : (lo = none ∧ l = 0) ∨ ∃ k, lo = some (.int k (l : Int))) (hhi : (hi = none ∧ u = len ∧ (mx = none ∨ False)) ∨ ∃ k, hi = some (.int k (u : Int)))
    (hmx : (mx = none ∧ m = cap) ∨ ∃ k, mx = some (.int k (m : Int))) (h1 : l ≤ u) (h2 : u ≤ m) (h3 : m ≤ cap) (w : World) : (Instr.sliceBounds isS len cap lo hi mx).run P w = .ok (l, u, m) w := by
  have sb : ∀ (k : IntKind) (i y : Nat) (c : BoundsCode), i ≤ y → ∀ w, (Instr.sliceBound (.int k (i : Int)) y c).run P w = .ok i w := fun k i y c h w => by
    rw [run_sliceBound w k (i : Int) y c (by omega) (by omega)]; simp
  unfold Instr.sliceBounds
  rcases hmx with ⟨rfl, rfl⟩ | ⟨km, rfl⟩
  · rcases hhi with ⟨rfl, rfl, _⟩ | ⟨kh, rfl⟩
    · rcases hlo with ⟨rfl, rfl⟩ | ⟨kl, rfl⟩
      · simp
      · simp [sb _ _ _ _ h1]
    · rcases hlo with ⟨rfl, rfl⟩ | ⟨kl, rfl⟩
      · simp [sb _ _ _ _ h2]
      · simp [sb _ _ _ _ h2, sb _ _ _ _ h1]
  · rcases hhi with ⟨rfl, rfl, h | h⟩ | ⟨kh, rfl⟩
    · simp at h
    · exact h.elim
    · rcases hlo with ⟨rfl, rfl⟩ | ⟨kl, rfl⟩
      · simp [sb _ _ _ _ h2, sb _ _ _ _ h3]
      · simp [sb _ _ _ _ h2, sb _ _ _ _ h1, sb _ _ _ _ h3]

omit hE in
theorem sliceSl2_grow (b o len l u z y : Nat) : sliceSl2 b o len l u z (.grow y) = ifB (Nat.ble l u && Nat.ble u len && Nat.beq y z) (forceN (Nat.add o (Nat.mul l z)) fun o => forceN (Nat.sub u l) fun n => R1.ok (.slice b o n (.grow y))) R1.no := rfl
theorem slice_ok {t : TypeId} {tm : Loc} {a : Act} {x v : AVal} {x' : Value} {lo hi mx : Option Operand} (h : sliceA E t lo hi mx tm x = .ok v) (hx : V μ x x')
    (hlo : ∀ y, lo = some y → V μ (opnd y tm) (a.eval y)) (hhi : ∀ y, hi = some y → V μ (opnd y tm) (a.eval y)) (hmx : ∀ y, mx = some y → V μ (opnd y tm) (a.eval y)) (hf : fullOk hi mx = true) :
    Gives P μ (Instr.sliceAt t x' (lo.map a.eval) (hi.map a.eval) (mx.map a.eval)) v := by
  intro w
  have LO : ∀ {l}, optN lo 0 tm = some l → (lo.map a.eval = none ∧ l = 0) ∨ ∃ k, lo.map a.eval = some (.int k (l : Int)) := fun h => by
    rcases optN_ok h hlo with ⟨rfl, rfl⟩ | ⟨y, k, rfl, e⟩
    · exact .inl ⟨rfl, rfl⟩
    · exact .inr ⟨k, by simp [e]⟩
  have HI : ∀ {u d}, optN hi d tm = some u → (hi.map a.eval = none ∧ u = d) ∨ ∃ k, hi.map a.eval = some (.int k (u : Int)) := fun h => by
    rcases optN_ok h hhi with ⟨rfl, rfl⟩ | ⟨y, k, rfl, e⟩
    · exact .inl ⟨rfl, rfl⟩
    · exact .inr ⟨k, by simp [e]⟩
  unfold sliceA at h
  split at h
  · -- a string
    obtain ⟨s, rfl, rfl, rfl⟩ := strV hx
    obtain ⟨hs, h⟩ := ifB_eq h (by simp)
    have hu : P.underlying t = some .string := by
      unfold isStr at hs
      cases hd : und E t <;> rw [hd] at hs <;> simp at hs
      exact und_ok hE hd (by simp)
    obtain ⟨l, hl, h⟩ := onO_eq h (by simp)
    obtain ⟨u, hu', h⟩ := onO_eq h (by simp)
    cases mx with
    | some m => simp at h
    | none =>
      simp only [onO_none] at h
      obtain ⟨hb, h⟩ := ifB_eq h (by simp)
      rw [Bool.and_eq_true, ble_true, ble_true] at hb
      rw [mkS_eq] at h; simp at h; subst h
      obtain ⟨e1, e2⟩ := subStr_ok s.data.toList hb.1 hb.2
      have hsz : s.size = s.data.toList.length := rfl
      have hbd := bounds_ok (P := P) (isS := false) (len := s.size) (cap := s.size) (m := s.size) (mx := none) (LO hl) (by rcases HI hu' with ⟨a, b⟩ | c; exact .inl ⟨a, by rw [b, hsz], .inl rfl⟩; exact .inr c) (.inl ⟨rfl, rfl⟩) hb.1 (by rw [hsz]; exact hb.2) (Nat.le_refl _) w
      refine ⟨.string (s.extract l u), ?_, ?_⟩
      · simp only [Instr.sliceAt, Sem.run_bind, run_underlying hu, Result.andThen_ok, Option.map_none]
        simp only [Instr.slice, Sem.run_bind, run_underlying hu, Result.andThen_ok, Option.isSome_none, Bool.false_eq_true, if_false, hbd]
        rfl
      · have : (s.extract l u).data.toList = (s.data.toList.drop l).take (u - l) := by
          simp [ByteArray.data_extract, List.extract_eq_take_drop]
        refine V.str_of ?_ ?_
        · rw [this]; exact e1
        · rw [this]; exact e2.symm
  · -- nil
    cases hx
    obtain ⟨e, he, h⟩ := onO_eq h (by simp)
    obtain ⟨e, ag, sz⟩ := e
    obtain ⟨hu, hty⟩ := elemO_ok hE he
    obtain ⟨l, hl, h⟩ := onO_eq h (by simp)
    obtain ⟨u, hu', h⟩ := onO_eq h (by simp)
    obtain ⟨m, hm, h⟩ := onO_eq h (by simp)
    obtain ⟨hb, h⟩ := ifB_eq h (by simp)
    simp at h; subst h
    have hb := beq_true.1 hb
    have z1 : l = 0 := by have : l + u + m = 0 := hb; omega
    have z2 : u = 0 := by have : l + u + m = 0 := hb; omega
    have z3 : m = 0 := by have : l + u + m = 0 := hb; omega
    subst z1 z2 z3
    have MX : (mx.map a.eval = none ∧ (0 : Nat) = 0) ∨ ∃ k, mx.map a.eval = some (.int k ((0 : Nat) : Int)) := by
      rcases optN_ok hm hmx with ⟨rfl, _⟩ | ⟨y, k, rfl, e⟩
      · exact .inl ⟨rfl, rfl⟩
      · exact .inr ⟨k, by simp [e]⟩
    have HF : (hi.map a.eval = none ∧ (0 : Nat) = 0 ∧ (mx.map a.eval = none ∨ False)) ∨ ∃ k, hi.map a.eval = some (.int k ((0 : Nat) : Int)) := by
      rcases HI hu' with ⟨e1, _⟩ | e1
      · refine .inl ⟨e1, rfl, .inl ?_⟩
        cases mx with
        | none => rfl
        | some m =>
          have : hi.isSome = true := hf
          cases hi <;> simp at this e1
      · exact .inr e1
    have hbd := bounds_ok (P := P) (isS := true) (len := 0) (cap := 0) (m := 0) (LO hl) HF MX (Nat.le_refl _) (Nat.le_refl _) (Nat.le_refl _) w
    refine ⟨.slice none 0 0, ?_, .sliceNil⟩
    simp only [Instr.sliceAt, Sem.run_bind, run_underlying hu, Result.andThen_ok]
    simp only [Instr.slice, Sem.run_bind, run_underlying hu, Result.andThen_ok, hbd, run_sizeOf_ok hE hty]
    simp
  · -- a slice
    rename_i b o len cap
    obtain ⟨e, he, h⟩ := onO_eq h (by simp)
    obtain ⟨e, ag, z⟩ := e
    obtain ⟨hu, hty⟩ := elemO_ok hE he
    obtain ⟨l, hl, h⟩ := onO_eq h (by simp)
    obtain ⟨u, hu', h⟩ := onO_eq h (by simp)
    simp only at h
    -- what the run gives, for bounds l, u, m
    have RUN : ∀ (ad : Addr) (c m : Nat), ((mx.map a.eval = none ∧ m = c) ∨ ∃ k, mx.map a.eval = some (.int k (m : Int))) → l ≤ u → u ≤ m → m ≤ c →
        (Instr.sliceAt t (.slice (some ad) len c) (lo.map a.eval) (hi.map a.eval) (mx.map a.eval)).run P w = .ok (.slice (some (if m = l then ad else ad.add (l * z))) (u - l) (m - l)) w := by
      intro ad c m MX h1 h2 h3
      have HF : (hi.map a.eval = none ∧ u = len ∧ (mx.map a.eval = none ∨ False)) ∨ ∃ k, hi.map a.eval = some (.int k (u : Int)) := by
        rcases HI hu' with ⟨e1, e2⟩ | e1
        · refine .inl ⟨e1, e2, .inl ?_⟩
          cases mx with
          | none => rfl
          | some m =>
            have : hi.isSome = true := hf
            cases hi <;> simp at this e1
        · exact .inr e1
      have hbd := bounds_ok (P := P) (isS := true) (len := len) (cap := c) (m := m) (LO hl) HF MX h1 h2 h3 w
      simp only [Instr.sliceAt, Sem.run_bind, run_underlying hu, Result.andThen_ok]
      simp only [Instr.slice, Sem.run_bind, run_underlying hu, Result.andThen_ok, hbd, run_sizeOf_ok hE hty]
      simp only [Option.map_some, Sem.run_pure]
      by_cases hm : m = l
      · rw [if_pos hm, if_pos hm]
      · rw [if_neg hm, if_neg hm]
    have EX : ∀ (m c : Nat) (ad : Addr), sliceEx b o l u m z = .ok v → l ≤ u → u ≤ m →
        ((∃ rb sh sz off, μ b = .live rb sh sz ∧ ad = ⟨rb, off, none⟩ ∧ (c = 0 ∨ off = sh + o) ∧ m ≤ c) ∨ μ b = .dead) →
        V μ v (.slice (some (if m = l then ad else ad.add (l * z))) (u - l) (m - l)) := by
      intro m c ad hv h1 h2 hst
      simp only [sliceEx, forceN_eq, R1.ok.injEq] at hv
      subst hv
      rcases hst with ⟨rb, sh, sz, off, hm, rfl, ho, hmc⟩ | hm
      · by_cases e : m = l
        · rw [if_pos e]
          have : Nat.beq m l = true := beq_true.2 e
          simp only [moved, this, ifB_true]
          exact .sliceX b o (u - l) (m - l) rb sh sz off hm (by omega) (.inl (by omega))
        · rw [if_neg e, Addr.add_lit]
          have : Nat.beq m l = false := by
            cases e' : Nat.beq m l with
            | false => rfl
            | true => exact absurd (beq_true.1 e') e
          simp only [moved, this, ifB_false]
          have h3 : off = sh + o := by rcases ho with h | h; omega; exact h
          exact .sliceX b _ (u - l) (m - l) rb sh sz _ hm (by omega) (.inr (by rw [h3]; show sh + o + l * z = sh + (o + l * z); omega))
      · exact .sliceDX b _ (u - l) (m - l) _ hm (by omega)
    cases mx with
    | none =>
      simp only [onO_none] at h
      have MX : ∀ c : Nat, (Option.map a.eval none = none ∧ c = c) ∨ ∃ k, Option.map a.eval none = some (.int k (c : Int)) := fun c => .inl ⟨rfl, rfl⟩
      cases cap with
      | exact c =>
        obtain ⟨hb, h⟩ := ifB_eq (show ifB (Nat.ble l u && Nat.ble u c) (sliceEx b o l u c z) .no = .ok v from h) (by simp)
        rw [Bool.and_eq_true, ble_true, ble_true] at hb
        cases hx with
        | sliceX _ _ _ _ rb sh sz off hm hl' ho => exact ⟨_, RUN _ c c (MX c) hb.1 hb.2 (Nat.le_refl _), EX c c _ h hb.1 hb.2 (.inl ⟨rb, sh, sz, off, hm, rfl, ho, Nat.le_refl _⟩)⟩
        | sliceDX _ _ _ _ ad hm hl' => exact ⟨_, RUN ad c c (MX c) hb.1 hb.2 (Nat.le_refl _), EX c c _ h hb.1 hb.2 (.inr hm)⟩
      | grow y =>
        rw [sliceSl2_grow] at h
        obtain ⟨hb, h⟩ := ifB_eq h (by simp)
        rw [Bool.and_eq_true, Bool.and_eq_true, ble_true, ble_true, beq_true] at hb
        simp only [forceN_eq, R1.ok.injEq] at h
        subst h
        obtain ⟨⟨h1, h2⟩, rfl⟩ := hb
        cases hx with
        | sliceG _ _ _ _ rb sh sz off c hm hl' hr =>
          refine ⟨_, RUN _ c c (MX c) h1 (by omega) (Nat.le_refl _), ?_⟩
          by_cases e : c = l
          · rw [if_pos e]; exact .sliceG b _ (u - l) y rb sh sz off (c - l) hm (by omega) (.inl (by omega))
          · rw [if_neg e, Addr.add_lit]
            have hr' := hr.resolve_left (by omega)
            refine .sliceG b _ (u - l) y rb sh sz _ (c - l) hm (by omega) (.inr ⟨?_, ?_⟩)
            · rw [hr'.1]; show sh + o + l * y = sh + (o + l * y); omega
            · have : l * y + (c - l) * y = c * y := by rw [← Nat.add_mul]; congr 1; omega
              show sh + (o + l * y) + (c - l) * y ≤ sz
              omega
        | sliceDG _ _ _ _ c ad hm hl' =>
          exact ⟨_, RUN ad c c (MX c) h1 (by omega) (Nat.le_refl _), .sliceDG b _ (u - l) y (c - l) _ hm (by omega)⟩
    | some mo =>
      simp only [onO_some] at h
      obtain ⟨m, hm', h⟩ := onO_eq h (by simp)
      obtain ⟨hb, hsl⟩ := ifB_eq (show ifB (Nat.ble l u && Nat.ble u m && Nat.ble m (capLow len cap)) (sliceEx b o l u m z) .no = .ok v from h) (by simp)
      clear h
      rw [Bool.and_eq_true, Bool.and_eq_true, ble_true, ble_true, ble_true] at hb
      obtain ⟨⟨h1, h2⟩, h3⟩ := hb
      obtain ⟨k, hk⟩ := asN_V hm' (hmx mo rfl)
      have MX : ∀ c : Nat, (Option.map a.eval (some mo) = none ∧ m = c) ∨ ∃ k, Option.map a.eval (some mo) = some (.int k (m : Int)) := fun c => .inr ⟨k, by simp [hk]⟩
      cases hx with
      | sliceX _ _ _ c rb sh sz off hm hl' ho =>
        have h3 : m ≤ c := h3
        exact ⟨_, RUN _ c m (MX c) h1 h2 h3, EX m c _ hsl h1 h2 (.inl ⟨rb, sh, sz, off, hm, rfl, ho, h3⟩)⟩
      | sliceDX _ _ _ c ad hm hl' =>
        have h3 : m ≤ c := h3
        exact ⟨_, RUN ad c m (MX c) h1 h2 h3, EX m c _ hsl h1 h2 (.inr hm)⟩
      | sliceG _ _ _ y rb sh sz off c hm hl' hr =>
        have h3 : m ≤ len := h3
        exact ⟨_, RUN _ c m (MX c) h1 h2 (by omega), EX m c _ hsl h1 h2 (.inl ⟨rb, sh, sz, off, hm, rfl, hr.imp id (·.1), by omega⟩)⟩
      | sliceDG _ _ _ y c ad hm hl' =>
        have h3 : m ≤ len := h3
        exact ⟨_, RUN ad c m (MX c) h1 h2 (by omega), EX m c _ hsl h1 h2 (.inr hm)⟩
  · simp at h
end
end Go.Ev
namespace Go.Ev
set_option linter.unusedVariables false
set_option linter.unusedSimpArgs false
section
variable {P : Program} {E : Env} (hE : EnvOK P E) {μ : Mu}
include hE

theorem field_at {s : TypeId} {f : Nat} {fd : Field} (h : fieldOf E s f = some fd) : ∃ fs, P.underlying s = some (.struct fs) ∧ fs[f]? = some fd := by
  unfold fieldOf at h
  cases hd : und E s <;> rw [hd] at h <;> simp at h
  rename_i fs
  exact ⟨fs, und_ok hE hd (by simp), by rw [← h]⟩

theorem part_ok {t : TypeId} {ag : Bool} {sz off : Nat} {l : List AVal} {v : AVal} {a : Array Value} (ht : tyO E t = some (ag, sz)) (h : partA ag sz l off = .ok v) (hl : VL μ l a.toList) (hc : ∀ y ∈ a.toList, IsCell y) : Gives P μ (part t a off) v := by
  intro w
  simp only [part, Sem.run_bind, run_isAgg_ok hE ht, Result.andThen_ok]
  cases ag with
  | true =>
    obtain ⟨h1, h2⟩ := ifB_eq (show ifB (Nat.ble (Nat.add off sz) l.length) (R1.ok (.agg ((l.drop off).take sz))) R1.no = .ok v from h) (by simp)
    simp at h2; subst h2
    refine ⟨.agg (a.extract off (off + sz)), by simp [run_sizeOf_ok hE ht], .agg _ _ ?_ ?_⟩
    all_goals have : (a.extract off (off + sz)).toList = (a.toList.drop off).take sz := by simp [List.extract_eq_take_drop]
    · rw [this]; exact (hl.drop off).take sz
    · rw [this]; exact fun y hy => hc y (List.mem_of_mem_drop (List.mem_of_mem_take hy))
  | false =>
    obtain ⟨x, h1, h2⟩ := onO_eq (show onO l[off]? R1.no (fun v => R1.ok v) = .ok v from h) (by simp)
    simp at h2; subst h2
    obtain ⟨y, hy, hv⟩ := hl.get h1
    refine ⟨y, ?_, hv⟩
    have : a[off]? = some y := by simpa using hy
    simp [this]

theorem fieldAddr_ok {s : TypeId} {f : Nat} {fd : Field} {ti : Bool × Nat} {x v : AVal} {x' : Value} (hf : fieldOf E s f = some fd) (ht : tyO E fd.type = some ti) (hz : Nat.beq ti.2 0 = false)
    (h : onPtr x R1.no (fun b o => forceN (Nat.add o fd.offset) fun o => R1.ok (.ptr b o)) = .ok v) (hx : V μ x x') : Gives P μ (Instr.fieldAt s x' f) v := by
  intro w
  obtain ⟨fs, h1, h2⟩ := field_at hE hf
  have hsz : ti.2 ≠ 0 := fun e => by rw [e] at hz; simp at hz
  obtain ⟨ag, sz⟩ := ti
  have run : ∀ a : Addr, (Instr.fieldAt s (.pointer (some a)) f).run P w = .ok (.pointer (some (a.add fd.offset))) w := fun a => by
    simp only [Instr.fieldAt, Sem.run_bind, run_underlying h1, Result.andThen_ok, h2, Instr.sureAddr, Sem.run_pure, fieldPlace, run_sizeOf_ok hE ht]
    rw [if_neg hsz]; simp
  cases x <;> simp only [onPtr] at h <;> try (simp at h; done)
  rename_i b o
  simp at h; subst h
  cases hx with
  | ptr _ _ rb sh sz' hm =>
    refine ⟨_, run _, ?_⟩
    rw [Addr.add_lit, Nat.add_assoc]
    exact .ptr b _ rb sh sz' hm
  | ptrDead _ _ a hm => exact ⟨_, run _, .ptrDead b _ _ hm⟩

theorem field_ok {s : TypeId} {f : Nat} {fd : Field} {ti : Bool × Nat} {x v : AVal} {x' : Value} (hf : fieldOf E s f = some fd) (ht : tyO E fd.type = some ti)
    (h : (match x with | .agg cs => partA ti.1 ti.2 cs fd.offset | _ => R1.no) = .ok v) (hx : V μ x x') : Gives P μ (Instr.field s x' f) v := by
  intro w
  obtain ⟨fs, h1, h2⟩ := field_at hE hf
  split at h
  · cases hx with
    | agg _ a hl hc =>
      obtain ⟨v', h3, h4⟩ := part_ok (P := P) hE (ag := ti.1) (sz := ti.2) ht h hl hc w
      exact ⟨v', by simp only [Instr.field, Sem.run_bind, run_underlying h1, Result.andThen_ok, h2, asAgg, Sem.run_pure, h3], h4⟩
  · simp at h

theorem indexAddr_ok {t : TypeId} {x ix v : AVal} {x' ix' : Value} (h : indexAddrA E t x ix = .ok v) (hx : V μ x x') (hi : V μ ix ix') : Gives P μ (Instr.indexAt t x' ix') v := by
  intro w
  unfold indexAddrA at h
  cases hd : und E t with
  | slice e =>
    rw [hd] at h; simp only at h
    have hu := und_ok hE hd (by simp)
    cases ht : tyO E e with
    | none => rw [ht] at h; simp at h
    | some ti =>
      rw [ht] at h; simp only [onO_some] at h
      obtain ⟨ag, z⟩ := ti
      split at h
      · rename_i b o l cap
        obtain ⟨i, hi1, h⟩ := onO_eq h (by simp)
        obtain ⟨k, rfl⟩ := asN_V hi1 hi
        obtain ⟨hb, h⟩ := ifB_eq (show ifB (Nat.ble (Nat.succ i) l) (forceN (Nat.add o (Nat.mul i z)) fun o => R1.ok (.ptr b o)) R1.no = .ok v from h) (by simp)
        have hb := ble_true.1 hb
        simp at h; subst h
        have run : ∀ (a : Addr) (c : Nat), (Instr.indexAt t (.slice (some a) l c) (.int k (i : Int))).run P w = .ok (.pointer (some (a.add (i * z)))) w := fun a c => by
          have : (0 : Int) ≤ i ∧ (i : Int) < l := ⟨by omega, by omega⟩
          simp only [Instr.indexAt, asIntOf, Sem.run_bind, Sem.run_pure, Result.andThen_ok, run_underlying hu]
          simp [this, run_sizeOf_ok hE ht]
        cases hx with
        | sliceX _ _ _ c rb sh sz off hm hl ho =>
          refine ⟨_, run _ _, ?_⟩
          rw [Addr.add_lit]
          have : off = sh + o := by rcases ho with h | h; omega; exact h
          subst this; rw [Nat.add_assoc]; exact .ptr b _ rb sh sz hm
        | sliceG _ _ _ y rb sh sz off c hm hl hr =>
          refine ⟨_, run _ _, ?_⟩
          rw [Addr.add_lit]
          have : off = sh + o := (hr.resolve_left (by omega)).1
          subst this; rw [Nat.add_assoc]; exact .ptr b _ rb sh sz hm
        | sliceDX _ _ _ c a hm hl => exact ⟨_, run _ _, .ptrDead b _ _ hm⟩
        | sliceDG _ _ _ y c a hm hl => exact ⟨_, run _ _, .ptrDead b _ _ hm⟩
      · simp at h
  | array n e =>
    rw [hd] at h; simp only at h
    have hu := und_ok hE hd (by simp)
    cases ht : tyO E e with
    | none => rw [ht] at h; simp at h
    | some ti =>
      rw [ht] at h; simp only [onO_some] at h
      obtain ⟨ag, z⟩ := ti
      split at h
      · rename_i b o
        obtain ⟨i, hi1, h⟩ := onO_eq h (by simp)
        obtain ⟨k, rfl⟩ := asN_V hi1 hi
        obtain ⟨hb, h⟩ := ifB_eq (show ifB (Nat.ble (Nat.succ i) n) (forceN (Nat.add o (Nat.mul i z)) fun o => R1.ok (.ptr b o)) R1.no = .ok v from h) (by simp)
        have hb := ble_true.1 hb
        simp at h; subst h
        have run : ∀ (a : Addr), (Instr.indexAt t (.pointer (some a)) (.int k (i : Int))).run P w = .ok (.pointer (some (a.add (i * z)))) w := fun a => by
          have : (0 : Int) ≤ i ∧ (i : Int) < n := ⟨by omega, by omega⟩
          simp only [Instr.indexAt, asIntOf, Sem.run_bind, Sem.run_pure, Result.andThen_ok, run_underlying hu, Instr.sureAddr]
          simp [this, run_sizeOf_ok hE ht]
        cases hx with
        | ptr _ _ rb sh sz hm => exact ⟨_, run _, by rw [Addr.add_lit, Nat.add_assoc]; exact .ptr b _ rb sh sz hm⟩
        | ptrDead _ _ a hm => exact ⟨_, run _, .ptrDead b _ _ hm⟩
      · simp at h
  | _ => rw [hd] at h; simp at h

theorem index_ok {t : TypeId} {x ix v : AVal} {x' ix' : Value} (h : indexA E t x ix = .ok v) (hx : V μ x x') (hi : V μ ix ix') : Gives P μ (Instr.index t x' ix') v := by
  intro w
  unfold indexA at h
  cases hd : und E t with
  | array n e =>
    rw [hd] at h; simp only at h
    have hu := und_ok hE hd (by simp)
    cases ht : tyO E e with
    | none => rw [ht] at h; simp at h
    | some ti =>
      rw [ht] at h; simp only [onO_some] at h
      obtain ⟨ag, z⟩ := ti
      split at h
      · obtain ⟨i, hi1, h⟩ := onO_eq h (by simp)
        obtain ⟨k, rfl⟩ := asN_V hi1 hi
        obtain ⟨hb, h⟩ := ifB_eq h (by simp)
        have hb := ble_true.1 hb
        cases hx with
        | agg _ a hl hc =>
          obtain ⟨v', h3, h4⟩ := part_ok (P := P) hE ht h hl hc w
          refine ⟨v', ?_, h4⟩
          have : (0 : Int) ≤ i ∧ (i : Int) < n := ⟨by omega, by omega⟩
          simp only [Instr.index, asIntOf, Sem.run_bind, Sem.run_pure, Result.andThen_ok, run_underlying hu]
          simp only [this, and_self, if_true, Sem.run_bind, run_sizeOf_ok hE ht, Result.andThen_ok, Int.toNat_natCast, h3]
      · simp at h
  | string =>
    rw [hd] at h; simp only at h
    have hu := und_ok hE hd (by simp)
    split at h
    · obtain ⟨i, hi1, h⟩ := onO_eq h (by simp)
      obtain ⟨k, rfl⟩ := asN_V hi1 hi
      obtain ⟨s, rfl, rfl, rfl⟩ := strV hx
      obtain ⟨hb, h⟩ := ifB_eq h (by simp)
      have hb : i < s.data.toList.length := ble_true.1 hb
      simp only [forceN_eq, R1.ok.injEq] at h; subst h
      rw [byteAt_ok _ hb]
      refine ⟨.int .u8 (s.data.toList[i].toNat : Int), ?_, .int _ _⟩
      have hs : s[i]? = some s.data.toList[i] := by
        have h' : i < s.size := hb
        rw [getElem?_pos s i h']; rfl
      simp only [Instr.index, asIntOf, Sem.run_bind, Sem.run_pure, Result.andThen_ok, run_underlying hu]
      have : (0 : Int) ≤ i := by omega
      simp only [this, if_true, Int.toNat_natCast, hs]; rfl
    · simp at h
  | _ => rw [hd] at h; simp at h

omit hE in
theorem extract_ok {x v : AVal} {x' : Value} {i : Nat} (h : extractA x i = .ok v) (hx : V μ x x') : Gives P μ (Instr.extract x' i) v := by
  intro w
  unfold extractA at h
  split at h
  · split at h
    · rename_i vs _ y hy
      simp at h; subst h
      cases hx with
      | tuple _ a hl =>
        obtain ⟨z, hz, hv⟩ := hl.get hy
        have : a[i]? = some z := by simpa using hz
        exact ⟨z, by simp [Instr.extract, this], hv⟩
    · simp at h
  · simp at h
end
end Go.Ev
namespace Go.Ev
set_option linter.unusedVariables false
set_option linter.unusedSimpArgs false

theorem cellsL_ok {μ : Mu} {x : AVal} {l : List AVal} {x' : Value} (h : cellsL x = .ok l) (hx : V μ x x') : VL μ l x'.cells.toList ∧ ∀ y ∈ x'.cells.toList, IsCell y := by
  have one : ∀ y : Value, V μ x y → IsCell y → y.cells = #[y] → x' = y → l = [x] → VL μ l x'.cells.toList ∧ ∀ z ∈ x'.cells.toList, IsCell z := by
    rintro y hv hc hy rfl rfl
    rw [hy]
    exact ⟨.cons _ _ _ _ hv .nil, by simpa using hc⟩
  cases hx with
  | agg l' a h' hc => simp [cellsL] at h; subst h; exact ⟨h', hc⟩
  | tuple => simp [cellsL] at h
  | bad => simp [cellsL] at h
  | unk v hc =>
    simp [cellsL] at h
    refine one x' (.unk _ hc) hc ?_ rfl h.symm
    cases x' <;> first | rfl | exact hc.elim
  | bool b => exact one _ (.bool b) trivial rfl rfl (by simpa [cellsL] using h.symm)
  | int k n => exact one _ (.int k n) trivial rfl rfl (by simpa [cellsL] using h.symm)
  | str s => exact one _ (.str s) trivial rfl rfl (by simpa [cellsL] using h.symm)
  | ptrNil => exact one _ .ptrNil trivial rfl rfl (by simpa [cellsL] using h.symm)
  | ptr b o rb sh sz hm => exact one _ (.ptr b o rb sh sz hm) trivial rfl rfl (by simpa [cellsL] using h.symm)
  | ptrDead b o a hm => exact one _ (.ptrDead b o a hm) trivial rfl rfl (by simpa [cellsL] using h.symm)
  | sliceNil => exact one _ .sliceNil trivial rfl rfl (by simpa [cellsL] using h.symm)
  | sliceX b o l c rb sh sz off hm hl ho => exact one _ (.sliceX b o l c rb sh sz off hm hl ho) trivial rfl rfl (by simpa [cellsL] using h.symm)
  | sliceG b o l z rb sh sz off c hm hl hr => exact one _ (.sliceG b o l z rb sh sz off c hm hl hr) trivial rfl rfl (by simpa [cellsL] using h.symm)
  | sliceDX b o l c a hm hl => exact one _ (.sliceDX b o l c a hm hl) trivial rfl rfl (by simpa [cellsL] using h.symm)
  | sliceDG b o l z c a hm hl => exact one _ (.sliceDG b o l z c a hm hl) trivial rfl rfl (by simpa [cellsL] using h.symm)
  | mapNil => exact one _ .mapNil trivial rfl rfl (by simpa [cellsL] using h.symm)
  | map b rb sh sz hm => exact one _ (.map b rb sh sz hm) trivial rfl rfl (by simpa [cellsL] using h.symm)
  | mapDead b r hm => exact one _ (.mapDead b r hm) trivial rfl rfl (by simpa [cellsL] using h.symm)
  | func f l' a h' => exact one _ (.func f l' a h') trivial rfl rfl (by simpa [cellsL] using h.symm)
  | nilFunc => exact one _ .nilFunc trivial rfl rfl (by simpa [cellsL] using h.symm)
  | iface t v w h' => exact one _ (.iface t v w h') trivial rfl rfl (by simpa [cellsL] using h.symm)
  | nilIface => exact one _ .nilIface trivial rfl rfl (by simpa [cellsL] using h.symm)
  | float b => exact one _ (.float b) trivial rfl rfl (by simpa [cellsL] using h.symm)
  | cplx a b => exact one _ (.cplx a b) trivial rfl rfl (by simpa [cellsL] using h.symm)
  | resI m r x e => exact one _ (.resI m r x e) trivial rfl rfl (by simpa [cellsL] using h.symm)
  | resU m r x e => exact one _ (.resU m r x e) trivial rfl rfl (by simpa [cellsL] using h.symm)

theorem fillT_cons (v : AVal) (l : List AVal) (n : Nat) (t : Trie AVal) : fillT (v :: l) n t = fillT l (n + 1) (t.set n v) := by
  show forceN n (fun n => fillT l (Nat.succ n) (t.set n v)) = _
  simp
theorem fillT_get (l : List AVal) : ∀ (n : Nat) (t : Trie AVal) (i : Nat), (fillT l n t).get i = if n ≤ i ∧ i < n + l.length then l[i - n]? else t.get i := by
  induction l with
  | nil => intro n t i; show t.get i = _; rw [if_neg (by simp)]
  | cons v l ih =>
    intro n t i
    rw [fillT_cons, ih]
    by_cases h1 : n + 1 ≤ i ∧ i < n + 1 + l.length
    · rw [if_pos h1, if_pos (by simp; omega)]
      have : i - n = (i - (n + 1)) + 1 := by omega
      rw [this]; simp
    · rw [if_neg h1]
      by_cases h2 : i = n
      · subst h2; rw [Trie.get_set_same, if_pos (by simp)]; simp
      · rw [Trie.get_set_ne _ _ h2, if_neg (by simp; omega)]
theorem loadN_succ (t : Trie AVal) (n o : Nat) : loadN t (n + 1) o = onO (t.get o) .no fun v => (loadN t n (o + 1)).on .no fun l => .ok (v :: l) := rfl
theorem loadN_ok {t : Trie AVal} : ∀ {n o : Nat} {l : List AVal}, loadN t n o = .ok l → l.length = n ∧ ∀ i v, l[i]? = some v → t.get (o + i) = some v := by
  intro n
  induction n with
  | zero => intro o l h; have : l = [] := by have : RL.ok [] = RL.ok l := h; simpa using this.symm
            subst this; simp
  | succ n ih =>
    intro o l h
    rw [loadN_succ] at h
    obtain ⟨v, hv, h⟩ := onO_eq h (by simp)
    obtain ⟨m, hm, h⟩ := RL.on_eq h (by simp)
    simp at h; subst h
    obtain ⟨h1, h2⟩ := ih hm
    refine ⟨by simp [h1], fun i w hw => ?_⟩
    cases i with
    | zero => simp at hw; subst hw; simpa using hv
    | succ i => simp at hw; have := h2 i w hw; rw [← this]; congr 1; omega
theorem newCells_eq (h : Heap) (e : TypeId) (l : List AVal) (k : Nat → AVal) : newCells h e l k = .ok (k h.next) (h.add (.cells e l.length (fillT l 0 .leaf))) := by simp [newCells, Heap.add]

theorem VL.all {μ : Mu} {l : List AVal} {m : List Value} (h : VL μ l m) (hc : ∀ y ∈ m, IsCell y) {i : Nat} {v : AVal} (hv : l[i]? = some v) : ∃ v', m[i]? = some v' ∧ V μ v v' ∧ IsCell v' := by
  obtain ⟨v', h1, h2⟩ := h.get hv
  exact ⟨v', h1, h2, hc v' (List.mem_of_getElem? h1)⟩

/-- new cells: the first ones as told, behind them room -/
theorem Stp.cells {μ : Mu} {h : Heap} {w : World} (hr : HR μ h w) (e : TypeId) (l : List AVal) (cs : Array Value) (hl : l.length ≤ cs.size)
    (hv : ∀ (i : Nat) (v : AVal), l[i]? = some v → ∃ v', cs[i]? = some v' ∧ V μ v v' ∧ IsCell v') (w' : World) (fr : Nat × Nat) (hfr : NotFroz cs.size fr) (hw : w'.heap = w.heap.push (.cells cs e fr)) (ht : w'.tape = w.tape) (ho : w'.os = w.os) (hou : w'.output = w.output) :
    Stp μ h w (bearM μ h.next (.live w.heap.size 0 cs.size)) (h.add (.cells e l.length (fillT l 0 .leaf))) w' := by
  refine Stp.alloc hr _ (.cells cs e fr) w' hw ht ho hou cs.size ⟨⟨cs, fr, ?_, rfl, hfr, ?_⟩, by omega⟩
  · rw [hw, Array.getElem?_push]; simp
  · intro i v hi hg
    rw [fillT_get, if_pos (by omega)] at hg
    obtain ⟨v', h1, h2, h3⟩ := hv i v (by simpa using hg)
    exact ⟨v', by simpa using h1, h2.mono (Ext.bear _ (hr.fresh _ (Nat.le_refl _))), h3⟩

theorem cell_of {w : World} {rb off : Nat} {c : Array Value} {e : TypeId} {fr : Nat × Nat} {v : Value} (h : w.heap[rb]? = some (.cells c e fr)) (hv : c[off]? = some v) : w.cell? ⟨rb, off, none⟩ = some v := by
  simp [World.cell?, h, hv]

theorem blk_cells {β : Type} {no z : β} {h : Heap} {b : Nat} {k : TypeId → Nat → Trie AVal → β} (he : onCells no h b k = z) (hn : no ≠ z) : ∃ e s t, h.blk b = some (.cells e s t) ∧ k e s t = z := by
  unfold onCells at he
  cases hb : h.blk b with
  | none => rw [hb] at he; exact absurd he hn
  | some x =>
    rw [hb] at he
    cases x with
    | cells e s t => exact ⟨e, s, t, rfl, he⟩
    | _ => exact absurd he hn
theorem live_cells {μ : Mu} {h : Heap} {w : World} (hr : HR μ h w) {b rb sh sz : Nat} {e : TypeId} {s : Nat} {t : Trie AVal} (hb : h.blk b = some (.cells e s t)) (hm : μ b = .live rb sh sz) : CR μ w rb sh sz e s t := by
  have := hr.blk b _ hb
  rw [hm] at this; exact this
theorem not_dead {μ : Mu} {h : Heap} {w : World} (hr : HR μ h w) {b : Nat} {e : TypeId} {s : Nat} {t : Trie AVal} (hb : h.blk b = some (.cells e s t)) : μ b ≠ .dead := by
  intro hm
  have := hr.blk b _ hb
  rw [hm] at this; exact this

section
variable {P : Program} {μ : Mu} {h : Heap} {w : World} (hr : HR μ h w)
include hr
/-- cells that are read -/
theorem loadsX_ok {b o n rb sh sz s : Nat} {e : TypeId} {t : Trie AVal} {l : List AVal} (hb : h.blk b = some (.cells e s t)) (hl : loadN t n o = .ok l) (hs : o + n ≤ s) (hm : μ b = .live rb sh sz) :
    ∃ vs : List Value, (∀ w1 : World, w1.heap = w.heap → (loadCells ⟨rb, sh + o, none⟩ n).run P w1 = .ok vs.toArray w1) ∧ VL μ l vs ∧ (∀ y ∈ vs, IsCell y) ∧ vs.length = n ∧ ∀ j v, vs[j]? = some v → w.cell? ⟨rb, sh + o + j, none⟩ = some v := by
  obtain ⟨⟨c, fr, h1, h2, h3, h4⟩, hf⟩ := live_cells hr hb hm
  obtain ⟨hlen, hget⟩ := loadN_ok hl
  have each : ∀ i v, l[i]? = some v → ∃ v', c[sh + o + i]? = some v' ∧ V μ v v' ∧ IsCell v' := by
    intro i v hv
    have hi : i < l.length := by
      rcases Nat.lt_or_ge i l.length with h | h
      · exact h
      · simp [List.getElem?_eq_none h] at hv
    obtain ⟨v', a, b', d⟩ := h4 (o + i) v (by omega) (hget i v hv)
    exact ⟨v', by rw [← a]; congr 1; omega, b', d⟩
  have mk : ∀ (l : List AVal) (k : Nat), (∀ i v, l[i]? = some v → ∃ v', c[k + i]? = some v' ∧ V μ v v' ∧ IsCell v') → ∃ vs : List Value, VL μ l vs ∧ (∀ y ∈ vs, IsCell y) ∧ vs.length = l.length ∧ ∀ j v, vs[j]? = some v → c[k + j]? = some v := by
    intro l
    induction l with
    | nil => intro k _; exact ⟨[], .nil, by simp, rfl, by simp⟩
    | cons x l ih =>
      intro k hk
      obtain ⟨x', a1, a2, a3⟩ := hk 0 x rfl
      obtain ⟨vs, b1, b2, b3, b4⟩ := ih (k + 1) (fun i v hv => by
        obtain ⟨v', q1, q2⟩ := hk (i + 1) v (by simpa using hv)
        exact ⟨v', by rw [← q1]; congr 1; omega, q2⟩)
      refine ⟨x' :: vs, .cons _ _ _ _ a2 b1, ?_, by simp [b3], ?_⟩
      · intro y hy
        rcases List.mem_cons.1 hy with rfl | hy
        · exact a3
        · exact b2 y hy
      · intro j v hv
        cases j with
        | zero => simp at hv; subst hv; exact a1
        | succ j => simp at hv; rw [← b4 j v hv]; congr 1; omega
  obtain ⟨vs, q1, q2, q3, q4⟩ := mk l (sh + o) each
  refine ⟨vs, fun w1 hw1 => ?_, q1, q2, by omega, fun j v hv => cell_of h1 (q4 j v hv)⟩
  have := run_loadCells_list (P := P) w1 ⟨rb, sh + o, none⟩ vs (fun j v hv => by rw [Addr.add_lit]; exact cell_of (by rw [hw1]; exact h1) (q4 j v hv))
  rw [show n = vs.length by omega]; exact this
theorem loadsW_ok {b o n rb sh sz s : Nat} {e : TypeId} {t : Trie AVal} {l : List AVal} (hb : h.blk b = some (.cells e s t)) (hl : loadN t n o = .ok l) (hs : o + n ≤ s) (hm : μ b = .live rb sh sz) :
    ∃ vs : List Value, (∀ w1 : World, w1.heap = w.heap → (loadCells ⟨rb, sh + o, none⟩ n).run P w1 = .ok vs.toArray w1) ∧ VL μ l vs ∧ (∀ y ∈ vs, IsCell y) ∧ vs.length = n := by
  obtain ⟨vs, a, b, c, d, _⟩ := loadsX_ok (P := P) hr hb hl hs hm
  exact ⟨vs, a, b, c, d⟩
theorem loads_ok {b o n rb sh sz s : Nat} {e : TypeId} {t : Trie AVal} {l : List AVal} (hb : h.blk b = some (.cells e s t)) (hl : loadN t n o = .ok l) (hs : o + n ≤ s) (hm : μ b = .live rb sh sz) :
    ∃ vs : List Value, (loadCells ⟨rb, sh + o, none⟩ n).run P w = .ok vs.toArray w ∧ VL μ l vs ∧ (∀ y ∈ vs, IsCell y) ∧ vs.length = n := by
  obtain ⟨vs, a, b⟩ := loadsW_ok (P := P) hr hb hl hs hm
  exact ⟨vs, a w rfl, b⟩
/-- one cell that is read -/
theorem load1_ok {b o rb sh sz : Nat} {v : AVal} (hl : load1 h b o = .ok v) (hm : μ b = .live rb sh sz) : ∃ v', (load ⟨rb, sh + o, none⟩).run P w = .ok v' w ∧ V μ v v' ∧ IsCell v' := by
  obtain ⟨e, s, t, hb, h1⟩ := blk_cells hl (by simp)
  obtain ⟨h2, h3⟩ := ifB_eq h1 (by simp)
  obtain ⟨x, h4, h5⟩ := onO_eq h3 (by simp)
  simp at h5; subst h5
  obtain ⟨⟨c, fr, c1, c2, c3, c4⟩, hf⟩ := live_cells hr hb hm
  obtain ⟨v', a, b', d⟩ := c4 o x (ble_true.1 h2) h4
  exact ⟨v', by simp [cell_of c1 a], b', d⟩
end
/-- a run of stores into one row -/
theorem stores_run {P : Program} {rb off : Nat} {e : TypeId} {fr : Nat × Nat} : ∀ (vs : List Value) (i : Nat) (c : Array Value) (w : World), w.heap[rb]? = some (.cells c e fr) → NotFroz c.size fr → off + i + vs.length ≤ c.size → (∀ y ∈ vs, IsCell y) →
    ∃ w' c', (storeCells ⟨rb, off, none⟩ vs i).run P w = .ok () w' ∧ w'.heap[rb]? = some (.cells c' e fr) ∧ c'.size = c.size ∧ (∀ j, c'[j]? = if off + i ≤ j ∧ j < off + i + vs.length then vs[j - (off + i)]? else c[j]?) ∧
      w'.heap.size = w.heap.size ∧ (∀ r, r ≠ rb → w'.heap[r]? = w.heap[r]?) ∧ w'.tape = w.tape ∧ w'.os = w.os ∧ w'.output = w.output := by
  intro vs
  induction vs with
  | nil =>
    intro i c w h hf hl hc
    exact ⟨w, c, by simp [storeCells], h, rfl, fun j => by rw [if_neg (by simp)], rfl, fun _ _ => rfl, rfl, rfl, rfl⟩
  | cons v vs ih =>
    intro i c w h hf hl hc
    simp only [List.length_cons] at hl
    have hv : v.oneCell' = true := by have := hc v (by simp); cases v <;> first | rfl | exact this.elim
    have hcell : ∃ u, w.cell? ⟨rb, off + i, none⟩ = some u := ⟨c[off + i]'(by omega), cell_of h (by simp [show off + i < c.size by omega])⟩
    obtain ⟨u, hu⟩ := hcell
    have hfz : w.frozen? ⟨rb, off + i, none⟩ = false := by
      have := hf (off + i) (by omega)
      simp only [World.frozen?, h]
      simpa using this
    have hst : (store ⟨rb, off + i, none⟩ v).run P w = .ok () (w.setCell ⟨rb, off + i, none⟩ v) := by
      rw [run_store P w _ v _ hv, hu]; simp [hfz]
    have hlt := heap_lt h
    have hrow : (w.setCell ⟨rb, off + i, none⟩ v).heap[rb]? = some (.cells (c.setIfInBounds (off + i) v) e fr) := by
      simp [World.setCell, Array.getElem?_modify, h]
    have hoth : ∀ r, r ≠ rb → (w.setCell ⟨rb, off + i, none⟩ v).heap[r]? = w.heap[r]? := fun r hr => by
      simp [World.setCell, Array.getElem?_modify, Ne.symm hr]
    obtain ⟨w', c', a1, a2, a3, a4, a5, a6, a7, a8, a9⟩ := ih (i + 1) (c.setIfInBounds (off + i) v) (w.setCell ⟨rb, off + i, none⟩ v) hrow (by simpa using hf) (by simp; omega) (fun y hy => hc y (by simp [hy]))
    refine ⟨w', c', ?_, a2, by simpa using a3, ?_, ?_, fun r hr => by rw [a6 r hr, hoth r hr], a7, a8, a9⟩
    · simp only [storeCells, Sem.run_bind, Addr.add_lit, hst, Result.andThen_ok]; exact a1
    · intro j
      rw [a4 j]
      by_cases h1 : off + (i + 1) ≤ j ∧ j < off + (i + 1) + vs.length
      · rw [if_pos h1, if_pos (by simp; omega)]
        have : j - (off + i) = j - (off + (i + 1)) + 1 := by omega
        rw [this]; simp
      · rw [if_neg h1]
        by_cases h2 : j = off + i
        · subst h2; rw [if_pos (by simp)]; simp [show off + i < c.size by omega]
        · rw [if_neg (by simp; omega)]; rw [Array.getElem?_setIfInBounds]; simp [Ne.symm h2]
    · rw [a5]; simp [World.setCell]
end Go.Ev
namespace Go.Ev
set_option linter.unusedVariables false
set_option linter.unusedSimpArgs false

def Res (P : Program) (s : Sem Value) (μ : Mu) (h : Heap) (w : World) (v : AVal) (h' : Heap) : Prop :=
  ∃ v' w' μ', s.run P w = .ok v' w' ∧ Stp μ h w μ' h' w' ∧ V μ' v v'
def ResU (P : Program) (s : Sem Unit) (μ : Mu) (h : Heap) (w : World) (h' : Heap) : Prop :=
  ∃ w' μ', s.run P w = .ok () w' ∧ Stp μ h w μ' h' w'
theorem Gives.res {P : Program} {μ : Mu} {s : Sem Value} {v : AVal} {h : Heap} {w : World} (hr : HR μ h w) (g : Gives P μ s v) : Res P s μ h w v h :=
  let ⟨v', h1, h2⟩ := g w; ⟨v', w, μ, h1, Stp.refl hr, h2⟩

section
variable {P : Program} {E : Env} (hE : EnvOK P E) {μ : Mu} {h : Heap} {w : World} (hr : HR μ h w)
include hE hr

theorem loadV_ok {t : TypeId} {ag : Bool} {sz b o rb sh n : Nat} {v : AVal} (ht : tyO E t = some (ag, sz)) (hl : loadV ag sz h b o = .ok v) (hm : μ b = .live rb sh n) :
    ∃ v', (loadVar t ⟨rb, sh + o, none⟩).run P w = .ok v' w ∧ V μ v v' := by
  simp only [loadVar, Sem.run_bind, run_isAgg_ok hE ht, Result.andThen_ok]
  cases ag with
  | false =>
    obtain ⟨v', h1, h2, _⟩ := load1_ok (P := P) hr (show load1 h b o = .ok v from hl) hm
    exact ⟨v', by simpa using h1, h2⟩
  | true =>
    have hl' : (loadCs h b o sz).on R1.no (fun l => R1.ok (.agg l)) = .ok v := hl
    obtain ⟨l, h1, h2⟩ := RL.on_eq hl' (by simp)
    simp at h2; subst h2
    obtain ⟨e, s, t', hb, h3⟩ := blk_cells h1 (by simp)
    obtain ⟨h4, h5⟩ := ifB_eq h3 (by simp)
    obtain ⟨vs, q1, q2, q3, q4⟩ := loads_ok (P := P) hr hb h5 (ble_true.1 h4) hm
    exact ⟨.agg vs.toArray, by simp [run_sizeOf_ok hE ht, q1], .agg _ _ (by simpa using q2) (by simpa using q3)⟩
theorem load_ok {t : TypeId} {ti : Bool × Nat} {x v : AVal} {x' : Value} (ht : tyO E t = some ti) (hl : loadA ti.1 ti.2 h x = .ok v) (hx : V μ x x') : ∃ v', (Instr.loadAt t x').run P w = .ok v' w ∧ V μ v v' := by
  cases x <;> simp only [loadA, onPtr] at hl <;> try (simp at hl; done)
  rename_i b o
  cases hx with
  | ptr _ _ rb sh sz hm =>
    obtain ⟨v', h1, h2⟩ := loadV_ok hE hr (t := t) (ag := ti.1) (sz := ti.2) ht hl hm
    exact ⟨v', by simpa [Instr.loadAt, Instr.sureAddr] using h1, h2⟩
  | ptrDead _ _ a hm =>
    exfalso
    unfold loadV at hl
    have key : ∀ e s t, h.blk b = some (.cells e s t) → False := fun e s t hb => not_dead hr hb hm
    cases hag : ti.1 with
    | false =>
      rw [hag] at hl
      obtain ⟨e, s, t', hb, _⟩ := blk_cells (show load1 h b o = .ok v from hl) (by simp)
      exact key _ _ _ hb
    | true =>
      rw [hag] at hl
      obtain ⟨l, h1, _⟩ := RL.on_eq (show (loadCs h b o ti.2).on R1.no (fun l => R1.ok (.agg l)) = .ok v from hl) (by simp)
      obtain ⟨e, s, t', hb, _⟩ := blk_cells h1 (by simp)
      exact key _ _ _ hb

omit hE in
/-- cells are stored -/
theorem stores_ok {b o rb sh sz : Nat} {l : List AVal} {h' : Heap} {vs : List Value} (hs : storeCs h b o l = .ok h') (hm : μ b = .live rb sh sz) (hl : VL μ l vs) (hc : ∀ y ∈ vs, IsCell y) :
    ∃ w', (storeCells ⟨rb, sh + o, none⟩ vs).run P w = .ok () w' ∧ Stp μ h w μ h' w' := by
  obtain ⟨e, s, t, hb, h1⟩ := blk_cells hs (by simp)
  obtain ⟨h2, h3⟩ := ifB_eq h1 (by simp)
  simp at h3; subst h3
  have h2 := ble_true.1 h2
  have h2 : o + l.length ≤ s := h2
  obtain ⟨⟨c, fr, c1, c2, c3, c4⟩, hf⟩ := live_cells hr hb hm
  have hlen := hl.length
  subst c2
  obtain ⟨w', c', a1, a2, a3, a4, a5, a6, a7, a8, a9⟩ := stores_run (P := P) (off := sh + o) vs 0 c w c1 c3 (by omega) hc
  refine ⟨w', a1, Stp.write hr hb (by simp) hm _ w' a5 a6 a7 a8 a9 ⟨⟨c', fr, a2, a3, c3, ?_⟩, hf⟩⟩
  intro i v hi hg
  rw [fillT_get] at hg
  by_cases hin : o ≤ i ∧ i < o + l.length
  · rw [if_pos hin] at hg
    obtain ⟨v', q1, q2, q3⟩ := hl.all hc hg
    refine ⟨v', ?_, q2, q3⟩
    rw [a4, if_pos (by omega)]
    rw [← q1]; congr 1; omega
  · rw [if_neg hin] at hg
    obtain ⟨v', q1, q2, q3⟩ := c4 i v hi hg
    exact ⟨v', by rw [a4, if_neg (by omega)]; exact q1, q2, q3⟩

theorem store_ok {t : TypeId} {ti : Bool × Nat} {a x : AVal} {a' x' : Value} {v : AVal} {h' : Heap} (ht : tyO E t = some ti) (hs : storeA ti.2 h a x = .ok v h') (ha : V μ a a') (hx : V μ x x') :
    v = undefA ∧ ResU P (Instr.storeAt t a' x') μ h w h' := by
  cases a <;> simp only [storeA, onPtr] at hs <;> try (simp at hs; done)
  rename_i b o
  obtain ⟨l, h1, h2⟩ := RL.on_eq hs (by simp)
  obtain ⟨h3, h4⟩ := ifB_eq h2 (by simp)
  have h3 := beq_true.1 h3
  have hst : ∃ h1, storeCs h b o l = .ok h1 ∧ v = undefA ∧ h1 = h' := by
    cases e : storeCs h b o l with
    | no => rw [e] at h4; simp at h4
    | ok h1 => rw [e] at h4; simp at h4; exact ⟨h1, rfl, h4.1.symm, h4.2⟩
  obtain ⟨h1', h5, rfl, rfl⟩ := hst
  obtain ⟨hvl, hc⟩ := cellsL_ok h1 hx
  cases ha with
  | ptr _ _ rb sh sz hm =>
    obtain ⟨w', q1, q2⟩ := stores_ok (P := P) hr h5 hm hvl hc
    refine ⟨rfl, w', μ, ?_, q2⟩
    have hsz : x'.cells.size = ti.2 := by have := hvl.length; simp at this; omega
    simp only [Instr.storeAt, Instr.sureAddr, Sem.run_bind, Sem.run_pure, Result.andThen_ok, storeVar, run_sizeOf_ok hE (ag := ti.1) (sz := ti.2) ht, hsz, ne_eq, not_true_eq_false, if_false]
    exact q1
  | ptrDead _ _ a hm =>
    exfalso
    obtain ⟨e, s, t', hb, _⟩ := blk_cells h5 (by simp)
    exact not_dead hr hb hm

omit hr in
theorem zero_ok {t : TypeId} {z : List AVal} (hz : cells0 E t = .ok z) : ∃ i v, P.info? t = some i ∧ i.zero = some v ∧ (zeroValue t).run P w = .ok v w ∧ VL μ z v.cells.toList ∧ (∀ y ∈ v.cells.toList, IsCell y) := by
  unfold cells0 zeroOf at hz
  cases hi : E.info t with
  | none => rw [hi] at hz; simp [cellsL] at hz
  | some i =>
    rw [hi] at hz
    cases hv : i.zero with
    | none => simp [hv, cellsL] at hz
    | some v =>
      simp only [hv] at hz
      obtain ⟨a, b⟩ := cellsL_ok hz (toA_ok μ v)
      exact ⟨i, v, hE.info t i hi, hv, by simp [zeroValue, typeInfo, hE.info t i hi, hv], a, b⟩

omit hE in
/-- a new variable -/
theorem newVar_ok {e : TypeId} {l : List AVal} {cs : Array Value} {k : Nat → AVal} {v : AVal} {h' : Heap} (hn : newCells h e l k = .ok v h') (hv : VL μ l cs.toList) (hc : ∀ y ∈ cs.toList, IsCell y) :
    v = k h.next ∧ Stp μ h w (bearM μ h.next (.live w.heap.size 0 cs.size)) h' { w with heap := w.heap.push (.cells cs e) } := by
  rw [newCells_eq] at hn
  obtain ⟨rfl, rfl⟩ := R2.ok_inj hn
  have hlen := hv.length
  refine ⟨rfl, Stp.cells hr e l cs (by simp at hlen; omega) ?_ _ (0, 0) (fun j _ => by simp) rfl rfl rfl rfl⟩
  intro i x hx
  obtain ⟨v', q1, q2⟩ := hv.all hc hx
  exact ⟨v', by simpa using q1, q2⟩
theorem alloc_ok {e : TypeId} {z : List AVal} {v : AVal} {h' : Heap} (hz : cells0 E e = .ok z) (hn : newCells h e z (fun b => .ptr b 0) = .ok v h') : Res P (Instr.alloc e true (.tuple #[])) μ h w v h' := by
  obtain ⟨i, zv, _, _, h1, h2, h3⟩ := zero_ok (μ := μ) hE (w := w) hz
  obtain ⟨rfl, hs⟩ := newVar_ok hr hn h2 h3
  refine ⟨.pointer (some ⟨w.heap.size, 0, none⟩), _, _, ?_, hs, ?_⟩
  · simp only [Instr.alloc, Sem.run_bind, h1, Result.andThen_ok, newVar, newRow, run_newObj, Sem.run_pure]
  · have := V.ptr (μ := bearM μ h.next (.live w.heap.size 0 zv.cells.size)) h.next 0 w.heap.size 0 zv.cells.size (bear_same _ _ _)
    simpa using this
omit hE in
theorem box_ok {e : TypeId} {x v : AVal} {x' : Value} {l : List AVal} {h' : Heap} (hl : cellsL x = .ok l) (hn : newCells h e l (fun b => .ptr b 0) = .ok v h') (hx : V μ x x') : Res P (Instr.box e x') μ h w v h' := by
  obtain ⟨h2, h3⟩ := cellsL_ok hl hx
  obtain ⟨rfl, hs⟩ := newVar_ok hr hn h2 h3
  refine ⟨.pointer (some ⟨w.heap.size, 0, none⟩), _, _, ?_, hs, ?_⟩
  · simp only [Instr.box, Sem.run_bind, Result.andThen_ok, newVar, newRow, run_newObj, Sem.run_pure]
  · have := V.ptr (μ := bearM μ h.next (.live w.heap.size 0 x'.cells.size)) h.next 0 w.heap.size 0 x'.cells.size (bear_same _ _ _)
    simpa using this
omit hE in
theorem makeMap_ok {t : TypeId} {v : AVal} {h' : Heap} (hn : makeMapA h = .ok v h') : Res P (Instr.makeMap t none) μ h w v h' := by
  simp only [makeMapA, forceN_eq] at hn
  obtain ⟨rfl, rfl⟩ := R2.ok_inj hn
  refine ⟨.map (some w.heap.size), { w with heap := w.heap.push (.map #[] 0) }, _, rfl, Stp.alloc hr (.map [] 0) (.map #[] 0) { w with heap := w.heap.push (.map #[] 0) } rfl rfl rfl rfl 0 ?_, ?_⟩
  · exact ⟨#[], by simp, .nil⟩
  exact .map _ _ 0 0 (bear_same _ _ _)

omit hE hr in
theorem fillP_nil (place : Nat → Option (Nat × Nat)) (cells : List AVal) : fillP place [] cells = .ok cells := rfl
omit hE hr in
theorem fillP_cons (place : Nat → Option (Nat × Nat)) (p : Nat × AVal) (ps : List (Nat × AVal)) (cells : List AVal) : fillP place (p :: ps) cells =
    onO (place p.1) .no fun os => (cellsL p.2).on .no fun vs => ifB (Nat.beq vs.length os.2 && Nat.ble (Nat.add os.1 os.2) cells.length) (fillP place ps (cells.take os.1 ++ vs ++ cells.drop (Nat.add os.1 os.2))) .no := rfl
inductive PR (μ : Mu) : List (Nat × AVal) → List (Nat × Value) → Prop where
  | nil : PR μ [] []
  | cons (i : Nat) (x : AVal) (y : Value) (l : List (Nat × AVal)) (m : List (Nat × Value)) (hv : V μ x y) (h : PR μ l m) : PR μ ((i, x) :: l) ((i, y) :: m)
omit hE hr in
theorem setFold (vs : List Value) (off : Nat) : ∀ (k : Nat) (cs : List Value), off + k + vs.length ≤ cs.length →
    ((vs.toArray.toList.zipIdx k).foldl (fun (cs : Array Value) (c, j) => cs.setIfInBounds (off + j) c) cs.toArray).toList = cs.take (off + k) ++ vs ++ cs.drop (off + k + vs.length) := by
  induction vs with
  | nil => intro k cs h; simp
  | cons v vs ih =>
    intro k cs h
    simp only [List.length_cons] at h
    simp only [List.zipIdx_cons, List.foldl_cons]
    have e : cs.toArray.setIfInBounds (off + k) v = (cs.set (off + k) v).toArray := by simp
    rw [e]
    have := ih (k + 1) (cs.set (off + k) v) (by simp; omega)
    simp only at this ⊢
    rw [this]
    have e1 : (cs.set (off + k) v).take (off + (k + 1)) = cs.take (off + k) ++ [v] := by
      rw [← Nat.add_assoc, List.take_succ_eq_append_getElem (by simp; omega)]
      rw [List.take_set_of_le (by omega)]; simp
    have e2 : (cs.set (off + k) v).drop (off + (k + 1) + vs.length) = cs.drop (off + k + (v :: vs).length) := by
      rw [List.drop_set_of_lt (by omega)]; congr 1; simp; omega
    rw [e1, e2]; simp

omit hE hr in
theorem fill_ok {place : Nat → Option (Nat × Nat)} : ∀ (ps : List (Nat × AVal)) (qs : List (Nat × Value)) (l : List AVal) (a : Array Value) (r : List AVal), PR μ ps qs → VL μ l a.toList → (∀ y ∈ a.toList, IsCell y) → fillP place ps l = .ok r →
    ∃ c, Instr.fill place a qs = some c ∧ VL μ r c.toList ∧ (∀ y ∈ c.toList, IsCell y) := by
  intro ps
  induction ps with
  | nil =>
    intro qs l a r hp hl hc h
    cases hp
    rw [fillP_nil] at h
    have : l = r := by simpa using h
    subst this
    exact ⟨a, rfl, hl, hc⟩
  | cons p ps ih =>
    intro qs l a r hp hl hc h
    cases hp with
    | cons i x y _ m hv hp =>
      rw [fillP_cons] at h
      obtain ⟨os, h1, h⟩ := onO_eq h (by simp)
      obtain ⟨vs, h2, h⟩ := RL.on_eq h (by simp)
      obtain ⟨h3, h⟩ := ifB_eq h (by simp)
      rw [Bool.and_eq_true, beq_true, ble_true] at h3
      obtain ⟨off, sz⟩ := os
      obtain ⟨h3, h4⟩ := h3
      have h4 : off + sz ≤ l.length := h4
      obtain ⟨q1, q2⟩ := cellsL_ok h2 hv
      have len1 := hl.length
      have len2 := q1.length
      have hsz : y.cells.size = sz := by simp at len2; simp at h3; omega
      have hal : l.length = a.size := by simpa using len1
      have hfold : (y.cells.zipIdx.foldl (fun cs (c, j) => cs.setIfInBounds (off + j) c) a).toList = a.toList.take off ++ y.cells.toList ++ a.toList.drop (off + sz) := by
        have := setFold y.cells.toList off 0 a.toList (by simp; omega)
        simp only [Nat.add_zero] at this
        have e : a.toList.toArray = a := rfl
        rw [← Array.foldl_toList, Array.toList_zipIdx]
        rw [e] at this
        rw [this]; congr 2; simp [hsz]
      have hx : VL μ (l.take off ++ vs ++ l.drop (Nat.add off sz)) (y.cells.zipIdx.foldl (fun cs (c, j) => cs.setIfInBounds (off + j) c) a).toList := by
        rw [hfold]; exact ((hl.take off).append q1).append (hl.drop _)
      have hy : ∀ z ∈ (y.cells.zipIdx.foldl (fun cs (c, j) => cs.setIfInBounds (off + j) c) a).toList, IsCell z := by
        rw [hfold]
        intro z hz
        rcases List.mem_append.1 hz with hz | hz
        · rcases List.mem_append.1 hz with hz | hz
          · exact hc z (List.mem_of_mem_take hz)
          · exact q2 z hz
        · exact hc z (List.mem_of_mem_drop hz)
      obtain ⟨c, r1, r2, r3⟩ := ih m _ _ r hp hx hy h
      refine ⟨c, ?_, r2, r3⟩
      simp only [Instr.fill, h1]
      rw [if_neg (by simp; omega)]
      exact r1
omit hE hr in
theorem repL_ok {l : List AVal} {z : Array Value} (hl : VL μ l z.toList) (hc : ∀ y ∈ z.toList, IsCell y) : ∀ n, VL μ (repL l n) (List.flatten (List.replicate n z.toList)) ∧ ∀ y ∈ List.flatten (List.replicate n z.toList), IsCell y := by
  intro n
  induction n with
  | zero => exact ⟨.nil, by simp⟩
  | succ n ih =>
    rw [List.replicate_succ, List.flatten_cons]
    exact ⟨hl.append ih.1, fun y hy => (List.mem_append.1 hy).elim (hc y) (ih.2 y)⟩
omit hE hr in
/-- a row of so many zeros -/
theorem rep_range (z : Array Value) (n : Nat) (sz : Nat) (hz : sz = z.size) : ((Array.range (n * sz)).map (fun i => z[i % z.size]!)).toList = List.flatten (List.replicate n z.toList) := by
  subst hz
  induction n with
  | zero => simp
  | succ n ih =>
    rw [List.replicate_succ', List.flatten_append, ← ih]
    simp only [Array.toList_map, Array.toList_range, Nat.succ_mul, List.range_add, List.map_append, List.map_map]
    congr 1
    simp only [List.flatten_cons, List.flatten_nil, List.append_nil]
    apply List.ext_getElem
    · simp
    · intro i h1 h2
      simp at h1
      simp [Nat.mul_add_mod_self_right, Nat.mod_eq_of_lt h1, h1]
end
end Go.Ev
namespace Go.Ev
set_option linter.unusedVariables false
set_option linter.unusedSimpArgs false

section
variable {P : Program} {E : Env} (hE : EnvOK P E) {μ : Mu}
include hE

theorem fieldsO_ok : ∀ {fs : List Field} {l : List (Nat × Nat)}, fieldsO E fs = some l → ∀ w, (fs.mapM (m := Sem) fun f => do pure (f.offset, ← sizeOf f.type)).run P w = .ok l w := by
  intro fs
  induction fs with
  | nil => intro l h w; have : some [] = some l := h; simp at this; subst this; simp
  | cons f fs ih =>
    intro l h w
    obtain ⟨ti, h1, h2⟩ := onO_eq (show onO (tyO E f.type) none (fun ti => onO (fieldsO E fs) none fun l => some ((f.offset, ti.2) :: l)) = some l from h) (by simp)
    obtain ⟨m, h3, h4⟩ := onO_eq h2 (by simp)
    simp at h4; subst h4
    simp only [List.mapM_cons, Sem.run_bind, run_sizeOf_ok hE (ag := ti.1) (sz := ti.2) h1, Result.andThen_ok, Sem.run_pure, ih h3]

theorem build_ok {t : TypeId} {pl : Nat → Option (Nat × Nat)} {z : List AVal} {ps : List (Nat × AVal)} {qs : Array (Nat × Value)} {v : AVal} (hp : placeOf E t = some pl) (hz : cells0 E t = .ok z) (h : buildA z pl ps = .ok v) (hq : PR μ ps qs.toList) :
    Gives P μ (Instr.build t qs) v := by
  intro w
  obtain ⟨i, zv, _, _, h1, h2, h3⟩ := zero_ok (μ := μ) hE (w := w) hz
  obtain ⟨l, h4, h5⟩ := RL.on_eq h (by simp)
  simp at h5; subst h5
  obtain ⟨c, r1, r2, r3⟩ := fill_ok ps qs.toList z zv.cells l hq h2 h3 h4
  refine ⟨.agg c, ?_, .agg _ _ r2 r3⟩
  unfold placeOf at hp
  cases hd : und E t with
  | struct fs =>
    rw [hd] at hp; simp only at hp
    have hu := und_ok hE hd (by simp)
    obtain ⟨pls, h6, h7⟩ := onO_eq hp (by simp)
    simp at h7; subst h7
    simp only [Instr.build, Sem.run_bind, h1, Result.andThen_ok, run_underlying hu]
    have hm := fieldsO_ok hE h6 w
    have : (fs.mapM (m := Sem) fun f => do pure (f.offset, ← sizeOf f.type)).run P w = .ok pls.toArray w := by
      rw [Array.mapM_eq_mapM_toList, Sem.run_map, hm]; rfl
    rw [this]
    simp only [Result.andThen_ok]
    have e : (fun i : Nat => pls.toArray[i]?) = fun i : Nat => pls[i]? := by funext i; simp
    rw [e, r1]; rfl
  | array n e =>
    rw [hd] at hp; simp only at hp
    have hu := und_ok hE hd (by simp)
    obtain ⟨ti, h6, h7⟩ := onO_eq hp (by simp)
    simp at h7; subst h7
    simp only [Instr.build, Sem.run_bind, h1, Result.andThen_ok, run_underlying hu, run_sizeOf_ok hE (ag := ti.1) (sz := ti.2) h6, r1]; rfl
  | _ => rw [hd] at hp; simp at hp
end

section
variable {P : Program} {E : Env} (hE : EnvOK P E) {μ : Mu} {h : Heap} {w : World} (hr : HR μ h w)
include hE hr

omit hr in
theorem size_zero {t : TypeId} {ti : Bool × Nat} {i : TypeInfo} {v : Value} (ht : tyO E t = some ti) (hi : P.info? t = some i) : i.size = ti.2 := by
  obtain ⟨j, d, h1, h2, _⟩ := ty_ok hE (ag := ti.1) (sz := ti.2) ht
  rw [hi] at h1; simp at h1; subst h1; exact h2

theorem buildSlice_ok {t e : TypeId} {ag : Bool} {sz len : Nat} {z : List AVal} {ps : List (Nat × AVal)} {qs : Array (Nat × Value)} {v : AVal} {h' : Heap} (he : elemO E t = some (e, ag, sz)) (hz : cells0 E e = .ok z) (hzl : z.length = sz)
    (hsm : len * sz ≤ 1048576) (hb : buildSliceA e z sz h len ps = .ok v h') (hq : PR μ ps qs.toList) : Res P (Instr.buildSlice t len qs) μ h w v h' := by
  obtain ⟨hu, hty⟩ := elemO_ok hE he
  obtain ⟨i, zv, _, _, h1, h2, h3⟩ := zero_ok (μ := μ) hE (w := w) hz
  obtain ⟨l, h4, h5⟩ := RL.on_eq hb (by simp)
  have hzs : sz = zv.cells.size := by have := h2.length; simp at this; omega
  have hrow := rep_range zv.cells len sz hzs
  obtain ⟨q1, q2⟩ := repL_ok (μ := μ) h2 h3 len
  rw [← hrow] at q1 q2
  obtain ⟨c, r1, r2, r3⟩ := fill_ok ps qs.toList _ _ l hq q1 q2 h4
  obtain ⟨rfl, hs⟩ := newVar_ok hr h5 r2 r3
  refine ⟨.slice (some ⟨w.heap.size, 0, none⟩) len len, _, _, ?_, hs, ?_⟩
  · simp only [Instr.buildSlice, Sem.run_bind, run_underlying hu, Result.andThen_ok, run_sizeOf_ok hE hty]
    rw [if_neg (by omega)]
    by_cases hz0 : len * sz = 0
    · have e0 : (Array.map (fun i => (#[] : Array Value)[i % (#[] : Array Value).size]!) (Array.range 0)) = Array.map (fun i => zv.cells[i % zv.cells.size]!) (Array.range 0) := by simp
      rw [hz0] at r1
      simp only [hz0, if_true, pure_bind]
      rw [e0, r1]; rfl
    · simp only [hz0, if_false, Sem.run_bind, h1, Result.andThen_ok, Sem.run_pure, r1]; rfl
  · exact .sliceX h.next 0 len len w.heap.size 0 c.size 0 (bear_same _ _ _) (Nat.le_refl _) (.inr rfl)

theorem makeSlice_ok {t e : TypeId} {ag : Bool} {sz : Nat} {z : List AVal} {x y v : AVal} {x' y' : Value} {h' : Heap} (he : elemO E t = some (e, ag, sz)) (hz : cells0 E e = .ok z) (hzl : z.length = sz) (hby : byOf E e ≤ 1048576)
    (hb : makeSliceA e z h x y = .ok v h') (hx : V μ x x') (hy : V μ y y') : Res P (Instr.makeSlice t x' y') μ h w v h' := by
  obtain ⟨hu, hty⟩ := elemO_ok hE he
  obtain ⟨i, zv, hi, hiz, h1, h2, h3⟩ := zero_ok (μ := μ) hE (w := w) hz
  obtain ⟨l, h4, h5⟩ := onO_eq hb (by simp)
  obtain ⟨c, h6, h7⟩ := onO_eq h5 (by simp)
  obtain ⟨h8, h9⟩ := ifB_eq h7 (by simp)
  rw [Bool.and_eq_true, ble_true, ble_true] at h8
  obtain ⟨k1, rfl⟩ := asN_V h4 hx
  obtain ⟨k2, rfl⟩ := asN_V h6 hy
  have hzs : sz = zv.cells.size := by have := h2.length; simp at this; omega
  have hrow := rep_range zv.cells c sz hzs
  obtain ⟨q1, q2⟩ := repL_ok (μ := μ) h2 h3 c
  rw [← hrow] at q1 q2
  obtain ⟨rfl, hs⟩ := newVar_ok hr h9 q1 q2
  have hlc : l ≤ c := h8.1
  have hc' : c ≤ 1048576 := h8.2
  have hbi : i.bytes ≤ 1048576 := by
    unfold byOf at hby
    unfold cells0 zeroOf at hz
    cases hei : E.info e with
    | none => rw [hei] at hz; simp [cellsL] at hz
    | some j => rw [hei] at hby; have := hE.info e j hei; rw [hi] at this; simp at this; subst this; exact hby
  have hmul : i.bytes * c ≤ 1048576 * 1048576 := Nat.mul_le_mul hbi hc'
  have wl : ∀ n : Nat, n ≤ 1048576 → IntKind.i64.wrap (n : Int) = n := fun n hn => by
    simp only [IntKind.wrap, IntKind.bits, IntKind.signed]; simp; omega
  refine ⟨.slice (some ⟨w.heap.size, 0, none⟩) l c, _, _, ?_, hs, ?_⟩
  · have ti : (typeInfo e).run P w = .ok i w := by simp [typeInfo, hi]
    simp only [Instr.makeSlice, Sem.run_bind, run_underlying hu, Result.andThen_ok, asInt, asIntOf, Sem.run_pure, ti, wl l (by omega), wl c hc']
    have t1 : ((decide ((c : Int) < 0) || decide ((i.bytes : Int) * (c : Int) > 2 ^ 48)) || decide ((l : Int) < 0) || decide ((l : Int) > (c : Int))) = false := by
      have : ((i.bytes : Int) * (c : Int)) = ((i.bytes * c : Nat) : Int) := by simp
      rw [this]
      simp only [Bool.or_eq_false_iff, decide_eq_false_iff_not]
      omega
    simp only [t1, Bool.false_eq_true, if_false, Sem.run_bind, run_askRoom, Result.andThen_ok, run_sizeOf_ok hE hty, Int.toNat_natCast]
    by_cases hz0 : c * sz = 0
    · have e0 : (Array.map (fun i => (#[] : Array Value)[i % (#[] : Array Value).size]!) (Array.range 0)) = Array.map (fun i => zv.cells[i % zv.cells.size]!) (Array.range 0) := by simp
      simp only [hz0, if_true, pure_bind]
      rw [e0]; rfl
    · simp only [hz0, if_false, Sem.run_bind, h1, Result.andThen_ok, Sem.run_pure]; rfl
  · exact .sliceX h.next 0 l c w.heap.size 0 _ 0 (bear_same _ _ _) hlc (.inr rfl)
end
end Go.Ev
