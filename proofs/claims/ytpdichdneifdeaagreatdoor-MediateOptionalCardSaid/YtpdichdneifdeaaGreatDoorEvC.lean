import Derived.Test.YtpdichdneifdeaaGreatDoorEvB
import Derived.Laws.RangeString
import Derived.Laws.Append
import Derived.Laws.AppendOwn
namespace Go.Ev
set_option linter.unusedVariables false
set_option linter.unusedSimpArgs false

theorem findE_nil (eq : AVal → AVal → Option Bool) (k : AVal) : findE eq k [] = .miss := rfl
theorem findE_cons (eq : AVal → AVal → Option Bool) (k : AVal) (e : AEnt) (l : List AEnt) : findE eq k (e :: l) = onO (eq k e.key) .no fun b => ifB b (.hit e.val e.born) (findE eq k l) := rfl
theorem setE_cons (eq : AVal → AVal → Option Bool) (k v : AVal) (e : AEnt) (l : List AEnt) : setE eq k v (e :: l) = onO (eq k e.key) [] fun b => ifB b (⟨k, v, e.born⟩ :: l) (e :: setE eq k v l) := rfl
theorem setB_cons (n : Nat) (v : AVal) (e : AEnt) (l : List AEnt) : setB n v (e :: l) = ifB (Nat.beq n e.born) (⟨e.key, v, e.born⟩ :: l) (e :: setB n v l) := rfl

/-- is it a kind that a map asks at once? -/
theorem sameNow_ok {μ : Mu} {d : TypeDesc} {x y : AVal} {x' y' : Value} {r : Bool} (h : eqD d x y = some r) (hd : d = .string ∨ d = .bool ∨ ∃ k, d = .int k) (hx : V μ x x') (hy : V μ y y') :
    Instr.sameNow d x' y' = some r ∧ (r = true → ∀ n, Instr.sameBits n y' x' = true) := by
  rcases hd with rfl | rfl | ⟨k, rfl⟩
  · simp only [eqD] at h
    split at h
    · obtain ⟨s, rfl, rfl, rfl⟩ := strV hx
      obtain ⟨s', rfl, rfl, rfl⟩ := strV hy
      simp only [Option.some.injEq, strEq_ok] at h
      rw [← byteArray_beq] at h
      exact ⟨by simp [Instr.sameNow, h], fun hr n => by rw [hr] at h; cases n <;> simp only [Instr.sameBits] <;> (rw [byteArray_beq] at h ⊢; exact beq_iff_eq.2 (beq_iff_eq.1 h).symm)⟩
    · simp at h
  · simp only [eqD] at h
    split at h
    · cases hx; cases hy
      simp only [Option.some.injEq] at h
      exact ⟨by simp [Instr.sameNow, h], fun hr n => by rw [hr] at h; cases n <;> simp [Instr.sameBits] <;> simpa using (by simpa using h : _ = _).symm⟩
    · simp at h
  · simp only [eqD] at h
    split at h
    · obtain ⟨hk, h2⟩ := ifB_eq h (by simp)
      have := kEq_ok hk; subst this
      clear h
      cases hx; cases hy
      simp only [Option.some.injEq, iEq_ok] at h2
      exact ⟨by simp [Instr.sameNow, h2], fun hr n => by rw [hr] at h2; cases n <;> simp [Instr.sameBits] <;> simpa using (by simpa using h2 : _ = _).symm⟩
    · simp at h

section
variable {P : Program} {E : Env} (hE : EnvOK P E) (hP : PlainOK P E) {μ : Mu}
include hE hP

omit hP in
/-- the key's kind: asked at once, or of 'Op.equal' -/
theorem key_kind {kt : TypeId} {ks : List TypeDesc} (hk : flat E 6 kt = some ks) : ∃ d, und E kt = d ∧ P.underlying kt = some d ∧ ((d = .string ∨ d = .bool ∨ ∃ k, d = .int k) ∨ ∃ fs, d = .struct fs ∧ E.plain kt = true ∧ flatFs (flat E 5) fs.toList 0 = some ks) := by
  obtain ⟨ag, hty, hform⟩ := flat_succ (n := 5) hk
  rcases hform with ⟨_, d, hd, _, h⟩ | ⟨_, fs, hd, hp, hf⟩
  · exact ⟨d, hd, und_ok hE hd (by rcases h with rfl | rfl | ⟨k, rfl⟩ <;> simp), .inl h⟩
  · exact ⟨_, hd, und_ok hE hd (by simp), .inr ⟨fs, rfl, hp, hf⟩⟩
omit hE hP in
theorem eqTA_plain {kt : TypeId} {d : TypeDesc} (hd : und E kt = d) (h : d = .string ∨ d = .bool ∨ ∃ k, d = .int k) (x y : AVal) : eqTA E kt x y = eqD d x y := by
  unfold eqTA
  rw [hd]
  rcases h with rfl | rfl | ⟨k, rfl⟩ <;> rfl
omit hE hP in
theorem sameNow_struct (fs : Array Field) (x y : Value) : Instr.sameNow (.struct fs) x y = none := by cases x <;> cases y <;> rfl

theorem findAsking_ok {kt : TypeId} {k : AVal} {k' : Value} (hk : V μ k k') : ∀ (es : List AEnt) (ms : List MapEntry) (i0 : Nat), ER μ es ms → ∀ w,
    (findE (eqTA E kt) k es = .miss → (Instr.findAsking kt k' ms i0).run P w = .ok none w) ∧
    (∀ v b, findE (eqTA E kt) k es = .hit v b → ∃ j m, (Instr.findAsking kt k' ms i0).run P w = .ok (some (i0 + j, m.val)) w ∧ ms[j]? = some m ∧ V μ v m.val ∧ m.born = b ∧
      (∀ x x', V μ x x' → ER μ (setE (eqTA E kt) k x es) (ms.modify j fun e => { e with key := k', val := x' })) ∧ ∃ a, eqTA E kt k a = some true ∧ V μ a m.key) := by
  intro es
  induction es with
  | nil =>
    intro ms i0 h w
    cases h
    refine ⟨fun _ => by simp [Instr.findAsking], fun v b h => by simp [findE_nil] at h⟩
  | cons e es ih =>
    intro ms i0 h w
    cases h with
    | cons _ f _ m hke hve hbe hl =>
      rw [findE_cons]
      cases he : eqTA E kt k e.key with
      | none => exact ⟨fun h => by simp at h, fun v b h => by simp at h⟩
      | some r =>
        simp only [onO_some]
        have hrun := (eqTA_ok hE hP he hk hke).1 w
        cases r with
        | true =>
          refine ⟨fun h => by simp at h, fun v b h => ?_⟩
          simp at h
          obtain ⟨rfl, rfl⟩ := h
          refine ⟨0, f, by simp [Instr.findAsking, hrun], rfl, hve, hbe, ?_, e.key, he, hke⟩
          · intro x x' hx
            rw [setE_cons, he]; simp only [onO_some, ifB_true]
            exact .cons _ _ _ _ hk hx hbe hl
        | false =>
          obtain ⟨i1, i2⟩ := ih m (i0 + 1) hl w
          refine ⟨fun h => ?_, fun v b h => ?_⟩
          · have := i1 (by simpa using h)
            simp [Instr.findAsking, hrun, this]
          · obtain ⟨j, n, a1, a2, a3, a4, a6, a7⟩ := i2 v b (by simpa using h)
            refine ⟨j + 1, n, ?_, by simpa using a2, a3, a4, ?_, a7⟩
            · simp [Instr.findAsking, hrun, a1]; omega
            · intro x x' hx
              rw [setE_cons, he]; exact .cons _ _ _ _ hke hve hbe (a6 x x' hx)

omit hE hP in
theorem findNow_struct {fs : Array Field} {k : Value} (ms : List MapEntry) (i : Nat) (h : ms ≠ []) : Instr.findNow (.struct fs) k ms i = none := by
  cases ms with
  | nil => exact absurd rfl h
  | cons m ms => simp [Instr.findNow, sameNow_struct]
/-- 'findNow' and 'findAsking' come to one thing -/
theorem findKey_ok {kt : TypeId} {ks : List TypeDesc} (hf : flat E 6 kt = some ks) {k : AVal} {k' : Value} (hk : V μ k k') {es : List AEnt} {ms : List MapEntry} (he : ER μ es ms) (w : World)
    (hne : findE (eqTA E kt) k es ≠ .no) : (Instr.findKey kt k' ms).run P w = (Instr.findAsking kt k' ms 0).run P w := by
  obtain ⟨d, hd, hu, hform⟩ := key_kind hE hf
  simp only [Instr.findKey, Sem.run_bind, run_underlying hu, Result.andThen_ok]
  rcases hform with hsimple | ⟨fs, rfl, _, _⟩
  · have key : ∀ (es : List AEnt) (ms : List MapEntry) (i : Nat), ER μ es ms → findE (eqTA E kt) k es ≠ .no → ∃ r, Instr.findNow d k' ms i = some r ∧ (Instr.findAsking kt k' ms i).run P w = .ok r w := by
      intro es
      induction es with
      | nil => intro ms i h _; cases h; exact ⟨none, rfl, by simp [Instr.findAsking]⟩
      | cons e es ih =>
        intro ms i h hne
        cases h with
        | cons _ f _ m hke hve hbe hl =>
          rw [findE_cons] at hne
          cases he : eqTA E kt k e.key with
          | none => rw [he] at hne; exact absurd rfl hne
          | some r =>
            rw [he] at hne
            have hrun := (eqTA_ok hE hP he hk hke).1 w
            rw [eqTA_plain hd hsimple] at he
            have hs := (sameNow_ok he hsimple hk hke).1
            cases r with
            | true => exact ⟨some (i, f.val), by simp [Instr.findNow, hs], by simp [Instr.findAsking, hrun]⟩
            | false =>
              obtain ⟨r', a, b⟩ := ih m (i + 1) hl (by simpa using hne)
              exact ⟨r', by simp [Instr.findNow, hs, a], by simp [Instr.findAsking, hrun, b]⟩
    obtain ⟨r, a, b⟩ := key es ms 0 he hne
    rw [a, b]; rfl
  · cases ms with
    | nil => rfl
    | cons m ms => rw [findNow_struct _ _ (by simp)]

omit hP in
theorem checkKey_ok {em : Bool} {d : Nat} : ∀ (n : Nat) (t : TypeId) (ks : List TypeDesc), flat E n t = some ks → ∀ (xs : List Value) (ag : Bool), tyO E t = some (ag, ks.length) → xs.length = ks.length → ∀ w, (Instr.checkKey em (n + d) t (valOf ag xs)).run P w = .ok () w := by
  intro n
  induction n with
  | zero => intro t ks h; simp [flat] at h
  | succ n ih =>
    intro t ks h xs ag hty hl w
    obtain ⟨ag', hty', hform⟩ := flat_succ h
    rw [hty] at hty'
    obtain rfl : ag = ag' := by simpa using hty'
    rw [show n + 1 + d = n + d + 1 by omega]
    rcases hform with ⟨rfl, dd, hd, rfl, hk⟩ | ⟨rfl, fs, hd, hpl, hfs⟩
    · have hund : P.underlying t = some dd := und_ok hE hd (by rcases hk with rfl | rfl | ⟨k, rfl⟩ <;> simp)
      simp only [Instr.checkKey, Sem.run_bind, run_underlying hund, Result.andThen_ok]
      rcases hk with rfl | rfl | ⟨k, rfl⟩ <;> rfl
    · have hund : P.underlying t = some (.struct fs) := und_ok hE hd (by simp)
      show (Instr.checkKey em (n + d + 1) t (.agg xs.toArray)).run P w = _
      simp only [Instr.checkKey, Sem.run_bind, run_underlying hund, Result.andThen_ok]
      rw [← Array.forIn_toList]
      have key : ∀ (fs : List Field) (off : Nat) (ks : List TypeDesc), flatFs (flat E n) fs off = some ks → off + ks.length ≤ xs.length →
          ∀ (f : Field → PUnit → Sem (ForInStep PUnit)), (∀ fd u w, (f fd u).run P w = (((if fd.name ≠ "_" then (do Instr.checkKey em (n + d) fd.type (← part fd.type xs.toArray fd.offset)) else pure ()) : Sem Unit).run P w).andThen fun _ w => .ok (.yield ⟨⟩) w) →
          (forIn fs PUnit.unit f : Sem PUnit).run P w = .ok ⟨⟩ w := by
        intro fs
        induction fs with
        | nil => intro off ks h hle f hf; simp
        | cons fd fs ihf =>
          intro off ks h hle f hf
          obtain ⟨h1, h2⟩ := ifB_eq (show ifB (Bool.not (fd.name == "_") && Nat.beq fd.offset off) (onO (flat E n fd.type) none fun ks => onO (flatFs (flat E n) fs (off + ks.length)) none fun l => some (ks ++ l)) none = some ks from h) (by simp)
          obtain ⟨k1, h3, h4⟩ := onO_eq h2 (by simp)
          obtain ⟨k2, h5, h6⟩ := onO_eq h4 (by simp)
          simp at h6; subst h6
          rw [Bool.and_eq_true] at h1
          have hname : fd.name ≠ "_" := by have := h1.1; simpa using this
          have hoff : fd.offset = off := beq_true.1 h1.2
          simp only [List.length_append] at hle
          cases n with
          | zero => simp [flat] at h3
          | succ n =>
          obtain ⟨ag, hty, hform⟩ := flat_succ h3
          have hpart : ∀ w, (part fd.type xs.toArray fd.offset).run P w = .ok (valOf ag ((xs.drop off).take k1.length)) w := by
            intro w
            simp only [part, Sem.run_bind, run_isAgg_ok hE hty, Result.andThen_ok]
            cases ag with
            | true =>
              simp only [if_true, Sem.run_bind, run_sizeOf_ok hE hty, Result.andThen_ok, valOf, hoff]
              simp [List.extract_toArray, List.take_drop]
            | false =>
              have h1' : k1.length = 1 := by
                rcases hform with ⟨_, dd, _, e, _⟩ | ⟨e, _⟩
                · rw [e]; rfl
                · simp at e
              rw [h1'] at hle ⊢
              simp only [Bool.false_eq_true, if_false, valOf, hoff]
              have hz' : off < xs.length := by omega
              have e1 : (xs.drop off).take 1 = [xs[off]] := by rw [List.drop_eq_getElem_cons hz']; rfl
              rw [e1]
              simp [hz']
          simp only [List.forIn_cons, Sem.run_bind, hf, hname, ne_eq, not_false_eq_true, if_true, hpart, Result.andThen_ok]
          rw [ih fd.type k1 h3 _ ag hty (by simp; omega) w]
          simp only [Result.andThen_ok]
          exact ihf (off + k1.length) k2 h5 (by omega) f hf
      rw [key fs.toList 0 ks hfs (by omega)]
      · rfl
      · intro fd u w
        simp only [Sem.run_bind, Sem.run_ite]
        split
        · cases hq : (part fd.type xs.toArray fd.offset).run P w <;> simp [hq]
        · simp
end
end Go.Ev
namespace Go.Ev
set_option linter.unusedVariables false
set_option linter.unusedSimpArgs false

def Simple (d : TypeDesc) : Prop := d = .string ∨ d = .bool ∨ ∃ k, d = .int k
theorem flat_simple {E : Env} : ∀ (n : Nat) (t : TypeId) (ks : List TypeDesc), flat E n t = some ks → ∀ d ∈ ks, Simple d := by
  intro n
  induction n with
  | zero => intro t ks h; simp [flat] at h
  | succ n ih =>
    intro t ks h
    obtain ⟨ag, _, hf⟩ := flat_succ h
    rcases hf with ⟨_, d, _, rfl, hs⟩ | ⟨_, fs, _, _, hfs⟩
    · intro d' hd'; simp at hd'; subst hd'; exact hs
    · have key : ∀ (fs : List Field) (off : Nat) (ks : List TypeDesc), flatFs (flat E n) fs off = some ks → ∀ d ∈ ks, Simple d := by
        intro fs
        induction fs with
        | nil => intro off ks h; have : some [] = some ks := h; simp at this; subst this; simp
        | cons fd fs ihf =>
          intro off ks h
          obtain ⟨_, h2⟩ := ifB_eq (show ifB (Bool.not (fd.name == "_") && Nat.beq fd.offset off) (onO (flat E n fd.type) none fun ks => onO (flatFs (flat E n) fs (off + ks.length)) none fun l => some (ks ++ l)) none = some ks from h) (by simp)
          obtain ⟨k1, h3, h4⟩ := onO_eq h2 (by simp)
          obtain ⟨k2, h5, h6⟩ := onO_eq h4 (by simp)
          simp at h6; subst h6
          intro d hd
          rcases List.mem_append.1 hd with hd | hd
          · exact ih _ _ h3 d hd
          · exact ihf _ _ h5 d hd
      exact key _ _ _ hfs

section
variable {P : Program} {E : Env} (hE : EnvOK P E) (hP : PlainOK P E) {μ : Mu}
theorem eqK_bits {n : Nat} : ∀ (ks : List TypeDesc) (l m : List AVal) (xs ys : List Value), (∀ d ∈ ks, Simple d) → eqK ks l m = some true → VL μ l xs → VL μ m ys → l.length = ks.length → m.length = ks.length →
    xs.length = ys.length ∧ ((ys.zip xs).all fun (x, y) => Instr.sameBits n x y) = true := by
  intro ks
  induction ks with
  | nil => intro l m xs ys _ _ hl hm h1 h2; cases l <;> simp at h1; cases m <;> simp at h2; cases hl; cases hm; simp
  | cons d ks ih =>
    intro l m xs ys hs h hl hm h1 h2
    cases hl with
    | nil => simp at h1
    | cons x x' l xs hx hl =>
      cases hm with
      | nil => simp at h2
      | cons y y' m ys hy hm =>
        simp only [eqK] at h
        split at h
        · rename_i heq
          have hb := (sameNow_ok heq (hs d (by simp)) hx hy).2 rfl n
          obtain ⟨a, b⟩ := ih l m xs ys (fun d hd => hs d (by simp [hd])) h hl hm (by simpa using h1) (by simpa using h2)
          refine ⟨by simp [a], ?_⟩
          rw [List.zip_cons_cons, List.all_cons]
          exact Bool.and_eq_true_iff.2 ⟨hb, b⟩
        · rename_i hne
          exact absurd h hne

include hE hP
omit hP in
/-- the key that stays is the new one, for they are one -/
theorem stays_ok {kt : TypeId} {ks : List TypeDesc} (hk : flat E 6 kt = some ks) {k a : AVal} {k' a' : Value} (he : eqTA E kt k a = some true) (hx : V μ k k') (hy : V μ a a') (w : World) :
    (Instr.keyThatStays a' k').run P w = .ok k' w := by
  have hb : Instr.sameBits 10000 a' k' = true := by
    obtain ⟨d, hd, _, hf⟩ := key_kind hE hk
    rcases hf with hs | ⟨fs, rfl, hpl, hfs⟩
    · rw [eqTA_plain hd hs] at he
      exact (sameNow_ok he hs hx hy).2 rfl _
    · unfold eqTA at he
      rw [hd] at he; simp only at he
      rw [hk] at he; simp only [onO_some] at he
      split at he
      · split at he
        · rename_i l _ m
          obtain ⟨h1, h2⟩ := ifB_eq he (by simp)
          rw [Bool.and_eq_true, beq_true, beq_true] at h1
          cases hx with
          | agg _ xa hxl _ =>
            cases hy with
            | agg _ ya hyl _ =>
              obtain ⟨q1, q2⟩ := eqK_bits (n := 9999) ks l m xa.toList ya.toList (flat_simple 6 kt ks hk) h2 hxl hyl h1.1 h1.2
              simp only [Instr.sameBits, Bool.and_eq_true, beq_iff_eq]
              refine ⟨by simpa using q1.symm, q2⟩
        · simp at he
      · simp at he
  unfold Instr.keyThatStays
  rw [hb]; rfl
omit hP in
/-- a key is checked -/
theorem keyOk_ok {kt : TypeId} {ks : List TypeDesc} (hk : flat E 6 kt = some ks) {k : AVal} {k' : Value} (hx : V μ k k') (he : keyOk (eqTA E kt) k = true) (em : Bool) (w : World) :
    (Instr.checkKey em 10000 kt k').run P w = .ok () w := by
  obtain ⟨d, hd, hu, hf⟩ := key_kind hE hk
  rcases hf with hs | ⟨fs, rfl, hpl, hfs⟩
  · generalize hn : (10000 : Nat) = n
    obtain ⟨m, rfl⟩ : ∃ m, n = m + 1 := ⟨9999, hn.symm⟩
    clear hn
    simp only [Instr.checkKey, Sem.run_bind, run_underlying hu, Result.andThen_ok]
    rcases hs with rfl | rfl | ⟨k, rfl⟩ <;> rfl
  · unfold keyOk eqTA at he
    rw [hd] at he; simp only at he
    rw [hk] at he; simp only [onO_some] at he
    split at he
    · rename_i l 
      cases hx with
      | agg _ xa hxl _ =>
        have hl : l.length = ks.length := by
          cases hb : (Nat.beq l.length ks.length && Nat.beq l.length ks.length) with
          | true => rw [Bool.and_eq_true, beq_true] at hb; exact hb.1
          | false => simp only [hb] at he; simp at he
        obtain ⟨ag, hty, hform⟩ := flat_succ (n := 5) hk
        have hag : ag = true := by
          rcases hform with ⟨_, dd, hd', _, hk'⟩ | ⟨h, _⟩
          · rw [hd] at hd'; subst hd'; rcases hk' with h' | h' | ⟨k, h'⟩ <;> simp at h'
          · exact h
        subst hag
        have := checkKey_ok hE (em := em) (d := 9994) 6 kt ks hk xa.toList true hty (by rw [← hl]; exact (hxl.length).symm) w
        simpa [valOf] using this
    · simp at he

omit hE hP in
theorem mapBlk {h : Heap} {w : World} (hr : HR μ h w) {b : Nat} {es : List AEnt} {cl : Nat} (hb : h.blk b = some (.map es cl)) {m' : Value} (hm : V μ (.map b) m') :
    ∃ rb sh sz a, m' = .map (some rb) ∧ μ b = .live rb sh sz ∧ w.heap[rb]? = some (.map a cl) ∧ ER μ es a.toList := by
  have := hr.blk b _ hb
  cases hm with
  | map _ rb sh sz h1 => rw [h1] at this; obtain ⟨a, h2, h3⟩ := this; exact ⟨rb, sh, sz, a, rfl, h1, h2, h3⟩
  | mapDead _ r h1 => rw [h1] at this; exact this.elim
omit hE hP in
theorem onMap_eq {β : Type} {no z : β} {h : Heap} {b : Nat} {k : List AEnt → Nat → β} (he : onMap no h b k = z) (hn : no ≠ z) : ∃ es c, h.blk b = some (.map es c) ∧ k es c = z := by
  unfold onMap at he
  cases hb : h.blk b with
  | none => rw [hb] at he; exact absurd he hn
  | some x =>
    rw [hb] at he
    cases x with
    | map es c => exact ⟨es, c, rfl, he⟩
    | _ => exact absurd he hn
omit hE hP in
theorem run_map {w : World} {r cl : Nat} {a : Array MapEntry} (h : w.heap[r]? = some (.map a cl)) : (getObj r).run P w = .ok (.map a cl) w := by simp [getObj, Sem.run, h]
omit hE hP in
theorem run_setMap {w : World} {r cl : Nat} {a : Array MapEntry} (o' : Obj) (h : w.heap[r]? = some (.map a cl)) : (setObj r o').run P w = .ok () { w with heap := w.heap.setIfInBounds r o' } := by simp [setObj, Sem.run, h]
omit hE hP in
/-- a map is written -/
theorem Stp.map {h : Heap} {w : World} (hr : HR μ h w) {b rb sh sz cl : Nat} {es : List AEnt} (hb : h.blk b = some (.map es cl)) (hm : μ b = .live rb sh sz) (es' : List AEnt) (cl' : Nat) (a' : Array MapEntry) (he : ER μ es' a'.toList) (hlt : rb < w.heap.size) :
    Stp μ h w μ (h.setBlk b (.map es' cl')) { w with heap := w.heap.setIfInBounds rb (.map a' cl') } :=
  Stp.write hr hb (by simp) hm _ _ (by simp) (fun r hne => by simp [Array.getElem?_setIfInBounds, Ne.symm hne]) rfl rfl rfl ⟨a', by simp [hlt], he⟩
omit hE hP in
theorem mapO_eq {t : TypeId} {mt : MT} (hmt : mapO E t = some mt) : ∃ kt e ks i z, und E t = .map kt e ∧ flat E 6 kt = some ks ∧ E.info e = some i ∧ i.zero = some z ∧ mt = ⟨eqTA E kt, isStr E kt, toA z⟩ := by
  unfold mapO at hmt
  split at hmt
  · rename_i kt e hd
    obtain ⟨ks, h1, h⟩ := onO_eq hmt (by simp)
    obtain ⟨i, h2, h⟩ := onO_eq h (by simp)
    obtain ⟨z, h3, h⟩ := onO_eq h (by simp)
    simp at h
    exact ⟨kt, e, ks, i, z, hd, h1, h2, h3, h.symm⟩
  · simp at hmt
omit hP in
theorem run_zero {e : TypeId} {i : TypeInfo} {z : Value} (hi : E.info e = some i) (hz : i.zero = some z) (w : World) : (zeroValue e).run P w = .ok z w := by
  simp [zeroValue, typeInfo, hE.info e i hi, hz]

omit hE hP in
theorem found_ok {b ok : Bool} {x v : AVal} {x' : Value} (h : foundA ok x b = .ok v) (hx : V μ x x') : V μ v (if ok then .tuple #[x', .bool b] else x') := by
  cases ok with
  | true => simp [foundA] at h; subst h; exact .tuple _ _ (.cons _ _ _ _ hx (.cons _ _ _ _ (.bool b) .nil))
  | false => simp [foundA] at h; subst h; exact hx

omit hE hP in
theorem LR.mem {es : List AEnt} {ms : List MapEntry} (h : LR μ es ms) : (∀ f ∈ ms, ∃ e ∈ es, V μ e.key f.key ∧ V μ e.val f.val) ∧ (∀ e ∈ es, ∃ f ∈ ms, V μ e.key f.key ∧ V μ e.val f.val) := by
  induction h with
  | nil => exact ⟨by simp, by simp⟩
  | cons e f l l' m hp hk hv hl ih =>
    refine ⟨?_, ?_⟩
    · intro g hg
      rcases List.mem_cons.1 hg with rfl | hg
      · exact ⟨e, hp.mem_iff.2 (by simp), hk, hv⟩
      · obtain ⟨e', h1, h2⟩ := ih.1 g hg
        exact ⟨e', hp.mem_iff.2 (by simp [h1]), h2⟩
    · intro g hg
      rcases List.mem_cons.1 (hp.mem_iff.1 hg) with rfl | hg
      · exact ⟨f, by simp, hk, hv⟩
      · obtain ⟨f', h1, h2⟩ := ih.2 g hg
        exact ⟨f', by simp [h1], h2⟩
omit hE hP in
theorem findNow_str (s0 : ByteArray) : ∀ (ms : List MapEntry) (i : Nat), (∀ f ∈ ms, ∃ s, f.key = .string s) →
    (Instr.findNow .string (.string s0) ms i = some none ∧ ∀ f ∈ ms, f.key ≠ .string s0) ∨ ∃ j f, Instr.findNow .string (.string s0) ms i = some (some (j, f.val)) ∧ f ∈ ms ∧ f.key = .string s0 := by
  intro ms
  induction ms with
  | nil => intro i _; exact .inl ⟨rfl, by simp⟩
  | cons m ms ih =>
    intro i h
    obtain ⟨s, hs⟩ := h m (by simp)
    by_cases e : s0 = s
    · refine .inr ⟨i, m, ?_, by simp, by rw [hs, e]⟩
      have : (s0 == s) = true := by rw [byteArray_beq, e]; simp
      simp [Instr.findNow, hs, Instr.sameNow, this]
    · have hb : (s0 == s) = false := by
        rw [byteArray_beq]; simp only [beq_eq_false_iff_ne, ne_eq]
        intro h'; exact e (by cases s0; cases s; simp at h'; simp [h'])
      have hm : m.key ≠ .string s0 := by rw [hs]; simp; exact fun h' => e h'.symm
      rcases ih (i + 1) (fun f hf => h f (by simp [hf])) with ⟨h1, h2⟩ | ⟨j, f, h1, h2, h3⟩
      · refine .inl ⟨by simp [Instr.findNow, hs, Instr.sameNow, hb, h1], ?_⟩
        intro f hf
        rcases List.mem_cons.1 hf with rfl | hf
        · exact hm
        · exact h2 f hf
      · exact .inr ⟨j, f, by simp [Instr.findNow, hs, Instr.sameNow, hb, h1], by simp [h2], h3⟩
omit hE hP in
theorem eqS_str {x y : AVal} {r : Bool} (h : eqD .string x y = some r) : ∃ a l b m, x = .str a l ∧ y = .str b m ∧ strEq a l b m = r := by
  simp only [eqD] at h
  split at h
  · simp at h; exact ⟨_, _, _, _, rfl, rfl, h⟩
  · simp at h
omit hE hP in
theorem Unlike.eq : ∀ {es : List AEnt}, Unlike es → ∀ e ∈ es, ∀ f ∈ es, e = f ∨ eqD .string e.key f.key = some false ∨ eqD .string f.key e.key = some false := by
  intro es
  induction es with
  | nil => intro _ e he; simp at he
  | cons g es ih =>
    rintro ⟨h1, h2⟩ e he f hf
    rcases List.mem_cons.1 he with e1 | he'
    · rcases List.mem_cons.1 hf with e2 | hf'
      · exact .inl (e1.trans e2.symm)
      · rw [e1]; exact .inr (.inl (h1 f hf'))
    · rcases List.mem_cons.1 hf with e2 | hf'
      · rw [e2]; exact .inr (.inr (h1 e he'))
      · exact ih h2 e he' f hf'
omit hE hP in
theorem findS_hit {k v : AVal} {b : Nat} : ∀ {es : List AEnt}, findE (eqD .string) k es = .hit v b → ∃ e ∈ es, eqD .string k e.key = some true ∧ e.val = v := by
  intro es
  induction es with
  | nil => intro h; simp [findE_nil] at h
  | cons g es ih =>
    intro h
    rw [findE_cons] at h
    obtain ⟨r, h1, h2⟩ := onO_eq h (by simp)
    cases r with
    | true => simp at h2; exact ⟨g, by simp, h1, h2.1⟩
    | false =>
      obtain ⟨e, h3, h4⟩ := ih (by simpa using h2)
      exact ⟨e, by simp [h3], h4⟩
omit hE hP in
theorem findS_miss {k : AVal} : ∀ {es : List AEnt}, findE (eqD .string) k es = .miss → ∀ e ∈ es, eqD .string k e.key = some false := by
  intro es
  induction es with
  | nil => intro _ e he; simp at he
  | cons g es ih =>
    intro h e he
    rw [findE_cons] at h
    obtain ⟨r, h1, h2⟩ := onO_eq h (by simp)
    cases r with
    | true => simp at h2
    | false =>
      rcases List.mem_cons.1 he with rfl | he
      · exact h1
      · exact ih (by simpa using h2) e he

/-- a map is asked -/
theorem lookup_ok {h : Heap} {w : World} (hr : HR μ h w) {t : TypeId} {mt : MT} {m k v : AVal} {m' k' : Value} {ok : Bool} (hmt : mapO E t = some mt) (hk : keyOk mt.eq k = true) (hl : lookupA mt h m k ok = .ok v) (hm : V μ m m') (hx : V μ k k') :
    ∃ v', (Instr.lookup t m' k' ok).run P w = .ok v' w ∧ V μ v v' := by
  obtain ⟨kt, e, ks, i, z, hd, hf, hi, hz, rfl⟩ := mapO_eq hmt
  have hu := und_ok hE hd (by simp)
  have zrun := run_zero hE (P := P) hi hz w
  have chk := fun em => keyOk_ok hE hf hx hk em w
  cases m <;> simp only [lookupA] at hl <;> try (simp at hl; done)
  · cases hm
    refine ⟨_, ?_, found_ok hl (toA_ok μ z)⟩
    have fk : (Instr.findKey kt k' []).run P w = .ok none w := by
      have := findKey_ok hE hP hf hx (es := []) (ms := []) .nil w (by simp [findE_nil])
      rw [this]; simp [Instr.findAsking]
    simp only [Instr.lookup, Sem.run_bind, run_underlying hu, Result.andThen_ok, Sem.run_pure, chk, List.toList_toArray, fk, zrun]
    
  · rename_i b
    obtain ⟨x, hb, hl⟩ := onO_eq hl (by simp)
    cases x <;> simp only at hl <;> try (simp at hl; done)
    · rename_i es cl
      obtain ⟨rb, sh, sz, a, rfl, hmb, hw, her⟩ := mapBlk hr hb hm
      have asks := findAsking_ok hE hP (kt := kt) hx es a.toList 0 her w
      cases hfe : findE (eqTA E kt) k es with
      | no => rw [hfe] at hl; simp at hl
      | miss =>
        rw [hfe] at hl
        have fk := findKey_ok hE hP hf hx her w (by rw [hfe]; simp)
        rw [asks.1 hfe] at fk
        refine ⟨_, ?_, found_ok hl (toA_ok μ z)⟩
        simp only [Instr.lookup, Sem.run_bind, run_underlying hu, run_map hw, Result.andThen_ok, Sem.run_pure, chk, fk, zrun]
      | hit u n =>
        rw [hfe] at hl
        obtain ⟨j, m0, r1, _, r3, _⟩ := asks.2 u n hfe
        have fk := findKey_ok hE hP hf hx her w (by rw [hfe]; simp)
        rw [r1] at fk
        refine ⟨_, ?_, found_ok hl r3⟩
        simp only [Instr.lookup, Sem.run_bind, run_underlying hu, run_map hw, Result.andThen_ok, Sem.run_pure, chk, fk]
    · rename_i es
      obtain ⟨hstr, hl⟩ := ifB_eq hl (by simp)
      have hks : und E kt = .string := by
        have : isStr E kt = true := hstr
        unfold isStr at this
        split at this
        · assumption
        · simp at this
      have hku := und_ok hE hks (by simp)
      have keyS : ∃ s0, k' = .string s0 := by
        have hk : keyOk (eqTA E kt) k = true := hk
        unfold keyOk at hk
        rw [eqTA_plain hks (.inl rfl)] at hk
        cases he : eqD .string k k with
        | none => rw [he] at hk; simp at hk
        | some r => obtain ⟨a, l, _, _, rfl, _⟩ := eqS_str he; obtain ⟨s, rfl, _⟩ := strV hx; exact ⟨s, rfl⟩
      obtain ⟨s0, rfl⟩ := keyS
      have hbr := hr.blk b _ hb
      have live : ∃ rb sh sz, m' = .map (some rb) ∧ μ b = .live rb sh sz := by
        cases hm with
        | map _ rb sh sz h1 => exact ⟨rb, sh, sz, rfl, h1⟩
        | mapDead _ r h1 => rw [h1] at hbr; exact hbr.elim
      obtain ⟨rb, sh, sz, rfl, hmb⟩ := live
      rw [hmb] at hbr
      obtain ⟨⟨a, cl, hw, hlr⟩, hun⟩ := hbr
      have hmem := hlr.mem
      have same : ∀ (e : AEnt) (f : MapEntry), V μ e.key f.key → (∀ r, eqD .string k e.key = some r → ∃ s, f.key = .string s ∧ r = (s0 == s)) := by
        intro e f hv r he
        obtain ⟨a, l, b, m, rfl, hke, hr'⟩ := eqS_str he
        rw [hke] at hv
        obtain ⟨s1, h1, rfl, rfl⟩ := strV hx
        obtain ⟨s2, h2, rfl, rfl⟩ := strV hv
        obtain rfl : s0 = s1 := by simpa using h1
        exact ⟨s2, h2, by rw [← hr', strEq_ok, byteArray_beq]⟩
      cases hfe : findE (eqD .string) k es with
      | no => rw [hfe] at hl; simp at hl
      | miss =>
        rw [hfe] at hl
        have hall := findS_miss hfe
        have hstr : ∀ f ∈ a.toList, ∃ s, f.key = .string s := fun f hf => by
          obtain ⟨e0, h1, h2, _⟩ := hmem.1 f hf
          obtain ⟨s, h3, _⟩ := same e0 f h2 _ (hall e0 h1)
          exact ⟨s, h3⟩
        have fk : (Instr.findKey kt (.string s0) a.toList).run P w = .ok none w := by
          rcases findNow_str s0 a.toList 0 hstr with ⟨h1, _⟩ | ⟨j, f, _, h2, h3⟩
          · simp [Instr.findKey, run_underlying hku, h1]
          · exfalso
            obtain ⟨e0, h4, h5, _⟩ := hmem.1 f h2
            obtain ⟨s, h6, h7⟩ := same e0 f h5 _ (hall e0 h4)
            rw [h3] at h6
            obtain rfl : s0 = s := by simpa using h6
            rw [byteArray_beq] at h7; simp at h7
        refine ⟨_, ?_, found_ok hl (toA_ok μ z)⟩
        simp only [Instr.lookup, Sem.run_bind, run_underlying hu, run_map hw, Result.andThen_ok, Sem.run_pure, chk, fk, zrun]
      | hit u n =>
        rw [hfe] at hl
        obtain ⟨e1, h1, h2, h3⟩ := findS_hit hfe
        -- every key is a string
        have keyS : ∀ e ∈ es, ∃ r, eqD .string k e.key = some r := by
          intro e he
          obtain ⟨ka, kl, ea, el, hk1, hk2, _⟩ := eqS_str h2
          rcases hun.eq e he e1 h1 with rfl | h' | h'
          · exact ⟨_, h2⟩
          · obtain ⟨a, l, _, _, h', _, _⟩ := eqS_str h'; rw [hk1, h']; exact ⟨_, rfl⟩
          · obtain ⟨_, _, a, l, _, h', _⟩ := eqS_str h'; rw [hk1, h']; exact ⟨_, rfl⟩
        have hstr : ∀ f ∈ a.toList, ∃ s, f.key = .string s := fun f hf => by
          obtain ⟨e0, h4, h5, _⟩ := hmem.1 f hf
          obtain ⟨r, hr'⟩ := keyS e0 h4
          obtain ⟨s, h6, _⟩ := same e0 f h5 _ hr'
          exact ⟨s, h6⟩
        have fk : ∃ (j : Nat) (f : MapEntry), (Instr.findKey kt (.string s0) a.toList).run P w = .ok (some (j, f.val)) w ∧ V μ u f.val := by
          rcases findNow_str s0 a.toList 0 hstr with ⟨_, h4⟩ | ⟨j, f, h4, h5, h6⟩
          · exfalso
            obtain ⟨f, h5, h6, _⟩ := hmem.2 e1 h1
            obtain ⟨s, h7, h8⟩ := same e1 f h6 _ h2
            refine h4 f h5 ?_
            rw [h7]; rw [byteArray_beq] at h8
            have := (beq_iff_eq.1 h8.symm)
            congr 1; cases s; cases s0; simp at this; simp [this]
          · refine ⟨j, f, by simp [Instr.findKey, run_underlying hku, h4], ?_⟩
            obtain ⟨e0, h7, h8, h9⟩ := hmem.1 f h5
            obtain ⟨r, hr'⟩ := keyS e0 h7
            obtain ⟨s, h10, h11⟩ := same e0 f h8 _ hr'
            rw [h6] at h10
            obtain rfl : s0 = s := by simpa using h10
            have : r = true := by rw [h11, byteArray_beq]; simp
            subst this
            have e01 : e0 = e1 := by
              obtain ⟨f1, g5, g6, _⟩ := hmem.2 e1 h1
              obtain ⟨a1, l1, b1, m1, k1, k2, k3⟩ := eqS_str h2
              obtain ⟨a2, l2, b2, m2, k4, k5, k6⟩ := eqS_str hr'
              rw [k1] at k4
              obtain ⟨rfl, rfl⟩ : a1 = a2 ∧ l1 = l2 := by simpa using k4
              have same2 : b1 = b2 ∧ m1 = m2 := by
                unfold strEq at k3 k6
                have t : ∀ {x y l m : Nat}, (Bool.rec (motive := fun _ => Bool) false (Nat.beq x y) (Nat.beq l m) : Bool) = true → x = y ∧ l = m := by
                  intro x y l m h
                  cases hb : Nat.beq l m with
                  | false => rw [hb] at h; simp at h
                  | true => rw [hb] at h; exact ⟨beq_true.1 h, beq_true.1 hb⟩
                exact ⟨(t k3).1.symm.trans (t k6).1, (t k3).2.symm.trans (t k6).2⟩
              rcases hun.eq e0 h7 e1 h1 with h' | h' | h'
              · exact h'
              · exfalso; rw [k2, k5, same2.1, same2.2] at h'
                simp [eqD, strEq, Nat.beq_refl] at h'
              · exfalso; rw [k2, k5, same2.1, same2.2] at h'
                simp [eqD, strEq, Nat.beq_refl] at h'
            rw [← h3, ← e01]; exact h9
        obtain ⟨j, f, fk, hv⟩ := fk
        refine ⟨_, ?_, found_ok hl hv⟩
        simp only [Instr.lookup, Sem.run_bind, run_underlying hu, run_map hw, Result.andThen_ok, Sem.run_pure, chk, fk]
end
end Go.Ev
namespace Go.Ev
set_option linter.unusedVariables false
set_option linter.unusedSimpArgs false
theorem ER.append {μ : Mu} {es : List AEnt} {ms : List MapEntry} (h : ER μ es ms) {e : AEnt} {f : MapEntry} (hk : V μ e.key f.key) (hv : V μ e.val f.val) (hb : f.born = e.born) : ER μ (es ++ [e]) (ms ++ [f]) := by
  induction h with
  | nil => exact .cons _ _ _ _ hk hv hb .nil
  | cons e' f' l m a b c _ ih => exact .cons _ _ _ _ a b c ih
theorem modify_same {α : Type} (l : List α) (j : Nat) (f g : α → α) (h : ∀ x, l[j]? = some x → f x = g x) : l.modify j f = l.modify j g := by
  apply List.ext_getElem?
  intro i
  rw [List.getElem?_modify, List.getElem?_modify]
  by_cases e : j = i
  · subst e; cases hx : l[j]? with
    | none => rfl
    | some x => simp [h x hx]
  · simp [e]

section
variable {P : Program} {E : Env} (hE : EnvOK P E) (hP : PlainOK P E) {μ : Mu} {h : Heap} {w : World} (hr : HR μ h w)
include hE hP hr

theorem mapUpdate_ok {t : TypeId} {mt : MT} {m k x v : AVal} {m' k' x' : Value} {h' : Heap} (hmt : mapO E t = some mt) (hk : keyOk mt.eq k = true) (hl : mapUpdateA mt h m k x = .ok v h') (hm : V μ m m') (hx : V μ k k') (hv : V μ x x') :
    v = undefA ∧ ResU P (Instr.mapUpdate t m' k' x') μ h w h' := by
  obtain ⟨kt, e, ks, i, z, hd, hf, hi, hz, rfl⟩ := mapO_eq hmt
  have hu := und_ok hE hd (by simp)
  have chk := fun em => keyOk_ok hE hf hx hk em w
  cases m <;> simp only [mapUpdateA] at hl <;> try (simp at hl; done)
  rename_i b
  obtain ⟨es, c, hb, hl⟩ := onMap_eq hl (by simp)
  obtain ⟨rb, sh, sz, a, rfl, hmb, hw, her⟩ := mapBlk hr hb hm
  have hlt := heap_lt hw
  have asks := findAsking_ok hE hP (kt := kt) hx es a.toList 0 her w
  cases hfe : findE (eqTA E kt) k es with
  | no => rw [hfe] at hl; simp at hl
  | miss =>
    rw [hfe] at hl
    obtain ⟨rfl, rfl⟩ := R2.ok_inj hl
    have fk := findKey_ok hE hP hf hx her w (by rw [hfe]; simp)
    rw [asks.1 hfe] at fk
    refine ⟨rfl, _, μ, ?_, Stp.map hr hb hmb (es ++ [⟨k, x, c⟩]) (Nat.succ c) (a.push { key := k', val := x', born := c }) (by simpa using her.append (e := ⟨k, x, c⟩) (f := { key := k', val := x', born := c }) hx hv rfl) hlt⟩
    simp only [Instr.mapUpdate, Sem.run_bind, run_underlying hu, run_map hw, Result.andThen_ok, chk, fk, run_setMap _ hw]
  | hit u n =>
    rw [hfe] at hl
    obtain ⟨rfl, rfl⟩ := R2.ok_inj hl
    obtain ⟨j, m0, r1, r2, r3, _, r5, a0, r6, r7⟩ := asks.2 u n hfe
    have fk := findKey_ok hE hP hf hx her w (by rw [hfe]; simp)
    rw [r1] at fk
    have her' := r5 x x' hv
    refine ⟨rfl, _, μ, ?_, Stp.map hr hb hmb (setE (eqTA E kt) k x es) c (a.modify (0 + j) fun e => { e with key := k', val := x' }) (by simpa using her') hlt⟩
    have st := stays_ok hE hf r6 hx r7 w (P := P)
    have hat : a[0 + j]? = some m0 := by simpa using r2
    simp only [Instr.mapUpdate, Sem.run_bind, run_underlying hu, run_map hw, Result.andThen_ok, chk, fk, hat, Option.map_some, Option.getD_some, st, run_setMap _ hw]

theorem mapEntry_ok {t : TypeId} {mt : MT} {m k v : AVal} {m' k' : Value} {h' : Heap} (hmt : mapO E t = some mt) (hk : keyOk mt.eq k = true) (hl : mapEntryA mt h m k = .ok v h') (hm : V μ m m') (hx : V μ k k') :
    Res P (Instr.mapEntry t m' k') μ h w v h' := by
  obtain ⟨kt, e, ks, i, z, hd, hf, hi, hz, rfl⟩ := mapO_eq hmt
  have hu := und_ok hE hd (by simp)
  have chk := fun em => keyOk_ok hE hf hx hk em w
  have zrun := run_zero hE (P := P) hi hz w
  cases m <;> simp only [mapEntryA] at hl <;> try (simp at hl; done)
  rename_i b
  obtain ⟨es, c, hb, hl⟩ := onMap_eq hl (by simp)
  obtain ⟨rb, sh, sz, a, rfl, hmb, hw, her⟩ := mapBlk hr hb hm
  have hlt := heap_lt hw
  have asks := findAsking_ok hE hP (kt := kt) hx es a.toList 0 her w
  cases hfe : findE (eqTA E kt) k es with
  | no => rw [hfe] at hl; simp at hl
  | miss =>
    rw [hfe] at hl
    obtain ⟨rfl, rfl⟩ := R2.ok_inj hl
    have fk := findKey_ok hE hP hf hx her w (by rw [hfe]; simp)
    rw [asks.1 hfe] at fk
    refine ⟨.tuple #[z, goInt c], _, μ, ?_, Stp.map hr hb hmb (es ++ [⟨k, toA z, c⟩]) (Nat.succ c) (a.push { key := k', val := z, born := c }) (by simpa using her.append (e := ⟨k, toA z, c⟩) (f := { key := k', val := z, born := c }) hx (toA_ok μ z) rfl) hlt, ?_⟩
    · simp only [Instr.mapEntry, Sem.run_bind, run_underlying hu, run_map hw, Result.andThen_ok, chk, fk, zrun, run_setMap _ hw, Sem.run_pure]
    · exact .tuple _ _ (.cons _ _ _ _ (toA_ok μ z) (.cons _ _ _ _ (.int _ _) .nil))
  | hit u n =>
    rw [hfe] at hl
    obtain ⟨rfl, rfl⟩ := R2.ok_inj hl
    obtain ⟨j, m0, r1, r2, r3, r4, r5, a0, r6, r7⟩ := asks.2 u n hfe
    have fk := findKey_ok hE hP hf hx her w (by rw [hfe]; simp)
    rw [r1] at fk
    have her' := r5 u m0.val r3
    have st := stays_ok hE hf r6 hx r7 w (P := P)
    have hat : a[0 + j]? = some m0 := by simpa using r2
    refine ⟨.tuple #[m0.val, goInt m0.born], _, μ, ?_, Stp.map hr hb hmb (setE (eqTA E kt) k u es) c (a.modify (0 + j) fun e => { e with key := k' }) ?_ hlt, ?_⟩
    · simp only [Instr.mapEntry, Sem.run_bind, run_underlying hu, run_map hw, Result.andThen_ok, chk, fk, hat, Option.map_some, Option.getD_some, st, run_setMap _ hw, Sem.run_pure]
    · have : (a.modify (0 + j) fun e => { e with key := k' }).toList = a.toList.modify j fun e => { e with key := k', val := m0.val } := by
        rw [Array.toList_modify, Nat.zero_add]
        exact modify_same _ _ _ _ fun x hx => by rw [r2] at hx; simp at hx; subst hx; rfl
      rw [this]; exact her'
    · subst r4
      exact .tuple _ _ (.cons _ _ _ _ r3 (.cons _ _ _ _ (.int _ _) .nil))

omit hE hP hr in
theorem setB_ok {n : Nat} {x : AVal} {x' : Value} (hv : V μ x x') : ∀ (es : List AEnt) (ms : List MapEntry), ER μ es ms → (es.any fun e => Nat.beq n e.born) = true →
    ∃ j, ms.findIdx? (fun e => (e.born : Int) == (n : Int)) = some j ∧ ER μ (setB n x es) (ms.modify j fun e => { e with val := x' }) := by
  intro es
  induction es with
  | nil => intro ms _ h; simp at h
  | cons e es ih =>
    intro ms h hany
    cases h with
    | cons _ f _ m hk hv' hb hl =>
      rw [setB_cons]
      by_cases e1 : n = e.born
      · have b1 : Nat.beq n e.born = true := beq_true.2 e1
        refine ⟨0, ?_, ?_⟩
        · simp [List.findIdx?_cons, hb, e1]
        · rw [b1]; exact .cons _ _ _ _ hk hv hb hl
      · have b1 : Nat.beq n e.born = false := by
          cases h : Nat.beq n e.born with
          | false => rfl
          | true => exact absurd (beq_true.1 h) e1
        rw [List.any_cons, b1, Bool.false_or] at hany
        obtain ⟨j, h1, h2⟩ := ih m hl hany
        refine ⟨j + 1, ?_, ?_⟩
        · have : ¬ (e.born : Int) = n := by omega
          simp [List.findIdx?_cons, hb, this]
          have : (fun e : MapEntry => ((e.born : Int) == (n : Int))) = fun e => decide (e.born = n) := by
            funext e; by_cases h : e.born = n <;> simp [h]; omega
          simpa [this] using h1
        · rw [b1]; exact .cons _ _ _ _ hk hv' hb h2
omit hE hP in
theorem entryStore_ok {t : TypeId} {m s x v : AVal} {m' s' x' : Value} {h' : Heap} (hl : entryStoreA h m s x = .ok v h') (hm : V μ m m') (hs : V μ s s') (hv : V μ x x') :
    v = undefA ∧ ResU P (Instr.entryStore t m' s' x') μ h w h' := by
  obtain ⟨n, hn, hl⟩ := onO_eq hl (by simp)
  obtain ⟨k, rfl⟩ := asN_V hn hs
  cases m <;> simp only at hl <;> try (simp at hl; done)
  rename_i b
  obtain ⟨es, c, hb, hl⟩ := onMap_eq hl (by simp)
  obtain ⟨hany, hl⟩ := ifB_eq hl (by simp)
  obtain ⟨rfl, rfl⟩ := R2.ok_inj hl
  obtain ⟨rb, sh, sz, a, rfl, hmb, hw, her⟩ := mapBlk hr hb hm
  obtain ⟨j, h1, h2⟩ := setB_ok hv es a.toList her hany
  refine ⟨rfl, _, μ, ?_, Stp.map hr hb hmb (setB n x es) c (a.modify j fun e => { e with val := x' }) (by simpa using h2) (heap_lt hw)⟩
  have h1' : a.findIdx? (fun e => (e.born : Int) == (n : Int)) = some j := by rw [← h1]; cases a; exact (List.findIdx?_toArray _ _)
  simp only [Instr.entryStore, Sem.run_bind, run_map hw, asInt, asIntOf, Sem.run_pure, Result.andThen_ok, h1', run_setMap _ hw]

omit hP in
theorem range_ok {t : TypeId} {x v : AVal} {x' : Value} {h' : Heap} (hd : und E t = .string) (hl : rangeA h x = .ok v h') (hx : V μ x x') : Res P (Instr.range t x') μ h w v h' := by
  cases x <;> simp only [rangeA] at hl <;> try (simp at hl; done)
  rename_i n l
  obtain ⟨s, rfl, rfl, rfl⟩ := strV hx
  rw [forceN_eq] at hl
  obtain ⟨rfl, rfl⟩ := R2.ok_inj hl
  refine ⟨_, _, _, run_range_string w t s (und_ok hE hd (by simp)), Stp.alloc hr (.iter _ _ 0) (.stringIter s 0) (w.iter s 0) rfl rfl rfl rfl 0 ⟨rfl, s, World.iter_heap w s 0, rfl, rfl⟩, ?_⟩
  exact .ptr _ 0 w.heap.size 0 0 (bear_same _ _ _)

omit hE hP in
theorem next_ok {t : TypeId} {x v : AVal} {x' : Value} {h' : Heap} (hl : nextA h x = .ok v h') (hx : V μ x x') : Res P (Instr.next x' true t) μ h w v h' := by
  cases x <;> simp only [nextA] at hl <;> try (simp at hl; done)
  rename_i b o
  obtain ⟨ho, hl⟩ := ifB_eq hl (by simp)
  obtain rfl := beq_true.1 ho
  cases hb : h.blk b with
  | none => rw [hb] at hl; simp at hl
  | some y =>
    rw [hb] at hl
    cases y <;> simp only at hl <;> try (simp at hl; done)
    rename_i n l p
    have hbr := hr.blk b _ hb
    have live : ∃ rb sh sz, x' = .pointer (some ⟨rb, sh + 0, none⟩) ∧ μ b = .live rb sh sz := by
      cases hx with
      | ptr _ _ rb sh sz h1 => exact ⟨rb, sh, sz, rfl, h1⟩
      | ptrDead _ _ _ h1 => rw [h1] at hbr; exact hbr.elim
    obtain ⟨rb, sh, sz, rfl, hm⟩ := live
    rw [hm] at hbr
    obtain ⟨rfl, s, hw, rfl, rfl⟩ := hbr
    have g : (getObj rb).run P w = .ok (.stringIter s p) w := by simp [getObj, Sem.run, hw]
    have hsz : s.data.toList.length = s.size := by rw [Array.length_toList]; rfl
    cases hlt : Nat.ble (Nat.succ p) s.data.toList.length with
    | false =>
      rw [hlt] at hl
      obtain ⟨rfl, rfl⟩ := R2.ok_inj hl
      have hn : ¬ p < s.size := by
        intro h'
        have : Nat.ble (Nat.succ p) s.data.toList.length = true := ble_true.2 (by rw [hsz]; omega)
        rw [hlt] at this; simp at this
      refine ⟨.tuple #[.bool false], w, μ, ?_, Stp.refl hr, .tuple _ _ (.cons _ _ _ _ (.bool _) .nil)⟩
      simp only [Instr.next, Nat.add_zero, Sem.run_bind, g, Result.andThen_ok, hn, if_false, Sem.run_pure]
    | true =>
      rw [hlt] at hl
      have hp : p < s.size := by have := ble_true.1 hlt; omega
      have hp' : p < s.data.toList.length := by omega
      simp only [forceN_eq, byteAt_ok _ hp'] at hl
      cases hc : Nat.ble (s.data.toList[p]).toNat 127 with
      | false => rw [hc] at hl; simp at hl
      | true =>
        rw [hc] at hl
        obtain ⟨rfl, rfl⟩ := R2.ok_inj hl
        have hc := ble_true.1 hc
        have e1 : s[p]'hp = s.data.toList[p] := by simp; rfl
        have hd := decode_ascii s p hp (by rw [e1]; omega)
        refine ⟨.tuple #[.bool true, goInt p, .int .i32 (s.data.toList[p]).toNat], { w with heap := w.heap.setIfInBounds rb (.stringIter s (p + 1)) }, μ, ?_,
          Stp.write hr hb (by simp) hm _ _ (by simp) (fun r hne => by simp [Array.getElem?_setIfInBounds, Ne.symm hne]) rfl rfl rfl ⟨rfl, s, by simp [heap_lt hw], rfl, rfl⟩, ?_⟩
        · have g2 : (setObj rb (.stringIter s (p + 1))).run P w = .ok () { w with heap := w.heap.setIfInBounds rb (.stringIter s (p + 1)) } := by simp [setObj, Sem.run, hw]
          simp only [Instr.next, Nat.add_zero, Sem.run_bind, g, Result.andThen_ok, hp, if_true, hd, e1, g2, Sem.run_pure]
        · exact .tuple _ _ (.cons _ _ _ _ (.bool _) (.cons _ _ _ _ (.int _ _) (.cons _ _ _ _ (.int _ _) .nil)))
end
end Go.Ev
namespace Go.Ev
set_option linter.unusedVariables false
set_option linter.unusedSimpArgs false
theorem ER.length {μ : Mu} {es : List AEnt} {ms : List MapEntry} (h : ER μ es ms) : es.length = ms.length := by
  induction h with
  | nil => rfl
  | cons _ _ _ _ _ _ _ _ ih => simp [ih]
/-- cells as bytes -/
theorem map_u8 (s : ByteArray) : (s.data.map fun b => Value.int .u8 b.toNat).toList = s.data.toList.map fun b => Value.int .u8 (b.toNat : Int) := by simp

section
variable {P : Program} {E : Env} (hE : EnvOK P E) {μ : Mu} {h : Heap} {w : World} (hr : HR μ h w)
include hE hr

theorem len_ok {ts : Array TypeId} {ty st : TypeId} {x v : AVal} {x' : Value} (h0 : ts[0]? = some st) (hl : lenA (und E st) h x = .ok v) (hx : V μ x x') :
    ∃ v', (Builtin.len_ ts ty #[x']).run P w = .ok v' w ∧ V μ v v' := by
  have e0 : (#[x'] : Array Value)[0]? = some x' := rfl
  cases hd : und E st with
  | string =>
    rw [hd] at hl
    have hu := und_ok hE hd (by simp)
    cases x <;> simp [lenA] at hl
    subst hl
    obtain ⟨s, rfl, rfl, rfl⟩ := strV hx
    refine ⟨goInt s.size, ?_, ?_⟩
    · simp only [Builtin.len_, h0, e0, Sem.run_bind, run_underlying hu, Result.andThen_ok, Sem.run_pure]
    · have : s.data.toList.length = s.size := by rw [Array.length_toList]; rfl
      rw [this]; exact .int _ _
  | slice e =>
    rw [hd] at hl
    have hu := und_ok hE hd (by simp)
    cases x <;> simp [lenA] at hl
    · subst hl; cases hx
      exact ⟨goInt 0, by simp only [Builtin.len_, h0, e0, Sem.run_bind, run_underlying hu, Result.andThen_ok, Sem.run_pure]; rfl, .int _ _⟩
    · subst hl
      cases hx <;> exact ⟨goInt _, by simp only [Builtin.len_, h0, e0, Sem.run_bind, run_underlying hu, Result.andThen_ok, Sem.run_pure], .int _ _⟩
  | map k e =>
    rw [hd] at hl
    have hu := und_ok hE hd (by simp)
    cases x <;> simp only [lenA] at hl <;> try (simp at hl; done)
    · simp at hl; subst hl; cases hx
      exact ⟨goInt 0, by simp only [Builtin.len_, h0, e0, Sem.run_bind, run_underlying hu, Result.andThen_ok, Sem.run_pure], .int _ _⟩
    · rename_i b
      obtain ⟨es, c, hb, hl⟩ := onMap_eq hl (by simp)
      simp at hl; subst hl
      obtain ⟨rb, sh, sz, a, rfl, hmb, hw, her⟩ := mapBlk hr hb hx
      refine ⟨goInt a.size, by simp only [Builtin.len_, h0, e0, Sem.run_bind, run_underlying hu, Result.andThen_ok, Sem.run_pure, run_map hw], ?_⟩
      have := her.length
      simp at this
      rw [this]; exact .int _ _
  | _ => rw [hd] at hl; simp [lenA] at hl

omit hr in
theorem cap_ok {ts : Array TypeId} {ty st e : TypeId} {x v : AVal} {x' : Value} (h0 : ts[0]? = some st) (he : sliceElem E st = some e) (hl : capA x = .ok v) (hx : V μ x x') : Gives P μ (Builtin.cap_ ts ty #[x']) v := by
  intro w
  have hu := elem_ok hE he
  have e0 : (#[x'] : Array Value)[0]? = some x' := rfl
  cases x <;> simp only [capA] at hl <;> try (simp at hl; done)
  · simp at hl; subst hl; cases hx
    exact ⟨goInt 0, by simp only [Builtin.cap_, h0, e0, Sem.run_bind, run_underlying hu, Result.andThen_ok, Sem.run_pure]; rfl, .int _ _⟩
  · rename_i b o l c
    cases c <;> simp at hl
    subst hl
    cases hx <;> exact ⟨goInt _, by simp only [Builtin.cap_, h0, e0, Sem.run_bind, run_underlying hu, Result.andThen_ok, Sem.run_pure], .int _ _⟩

omit hE hr in
theorem max_ok {lt : Bool} {ts : Array TypeId} {ty : TypeId} {x y v : AVal} {x' y' : Value} (hl : maxA lt x y = .ok v) (hx : V μ x x') (hy : V μ y y') :
    Gives P μ (if lt then Builtin.min_ ts ty #[x', y'] else Builtin.max_ ts ty #[x', y']) v := by
  intro w
  cases x <;> simp only [maxA] at hl <;> try (simp at hl; done)
  split at hl <;> try (simp at hl; done)
  simp only [R1.ok.injEq] at hl; subst hl
  cases hx; cases hy
  rename_i k a _ k' b
  cases lt with
  | false =>
    refine ⟨.int k (if b > a then b else a), by simp [Builtin.max_, Builtin.max2], ?_⟩
    simp only [iLt_ok]
    by_cases h : a < b <;> simp [h] <;> exact .int _ _
  | true =>
    refine ⟨.int k (if b < a then b else a), by simp [Builtin.min_, Builtin.min2], ?_⟩
    simp only [iLt_ok]
    by_cases h : b < a <;> simp [h] <;> exact .int _ _

omit hE hr in
theorem ssData_ok {ts : Array TypeId} {ty : TypeId} {x v : AVal} {x' : Value} (hl : ssDataA x = .ok v) (hx : V μ x x') : Gives P μ (Builtin.unsafeSliceData_ ts ty #[x']) v := by
  intro w
  cases x <;> simp only [ssDataA] at hl <;> try (simp at hl; done)
  · simp at hl; subst hl; cases hx
    exact ⟨.pointer none, rfl, .ptrNil⟩
  · rename_i b o l c
    cases h1 : Nat.ble 1 l with
    | false => rw [h1] at hl; simp at hl
    | true =>
      rw [h1] at hl
      simp at hl; subst hl
      have h1 := ble_true.1 h1
      cases hx with
      | sliceX _ _ _ c rb sh sz off hm hlc ho =>
        obtain ⟨k, rfl⟩ : ∃ k, c = k + 1 := ⟨c - 1, by omega⟩
        rcases ho with ho | rfl
        · omega
        · exact ⟨.pointer (some ⟨rb, sh + o, none⟩), rfl, .ptr _ _ _ _ _ hm⟩
      | sliceG _ _ _ z rb sh sz off c hm hlc ho =>
        obtain ⟨k, rfl⟩ : ∃ k, c = k + 1 := ⟨c - 1, by omega⟩
        rcases ho with ho | ⟨rfl, _⟩
        · omega
        · exact ⟨.pointer (some ⟨rb, sh + o, none⟩), rfl, .ptr _ _ _ _ _ hm⟩
      | sliceDX _ _ _ c a hm hlc =>
        obtain ⟨k, rfl⟩ : ∃ k, c = k + 1 := ⟨c - 1, by omega⟩
        exact ⟨.pointer (some a), rfl, .ptrDead _ _ _ hm⟩
      | sliceDG _ _ _ z c a hm hlc =>
        obtain ⟨k, rfl⟩ : ∃ k, c = k + 1 := ⟨c - 1, by omega⟩
        exact ⟨.pointer (some a), rfl, .ptrDead _ _ _ hm⟩
end
end Go.Ev
namespace Go.Ev
set_option linter.unusedVariables false
set_option linter.unusedSimpArgs false

theorem bytesOf_zero (n : Nat) (acc : List AVal) : bytesOf 0 n acc = acc := rfl
theorem bytesOf_succ (l n : Nat) (acc : List AVal) : bytesOf (l + 1) n acc = bytesOf l (n / 256) (.int .u8 (.ofNat (n % 256)) :: acc) := by
  show forceN (n % 256) (fun c => forceN (n / 256) fun n => bytesOf l n (.int .u8 (.ofNat c) :: acc)) = _
  simp
theorem bytesOf_ok (l : List UInt8) : ∀ acc, bytesOf l.length (packL l 0) acc = (l.map fun b => AVal.int .u8 (b.toNat : Int)) ++ acc := by
  generalize hn : l.length = n
  induction n generalizing l with
  | zero => intro acc; have : l = [] := List.length_eq_zero_iff.1 hn; subst this; rfl
  | succ n ih =>
    intro acc
    rcases List.eq_nil_or_concat l with rfl | ⟨l, b, rfl⟩
    · simp at hn
    rw [List.concat_eq_append] at hn ⊢
    have hn : l.length = n := by simpa using hn
    have ih := ih l hn
    rw [bytesOf_succ, packL_append]
    have hb : packL [b] 0 = b.toNat := by simp [packL]
    have hlt : b.toNat < 256 := b.toNat_lt
    rw [hb, List.length_singleton]
    have e1 : (packL l 0 * 256 ^ 1 + b.toNat) / 256 = packL l 0 := by omega
    have e2 : (packL l 0 * 256 ^ 1 + b.toNat) % 256 = b.toNat := by omega
    rw [e1, e2, ih]
    simp
theorem VL.bytes (μ : Mu) (l : List UInt8) : VL μ (l.map fun b => AVal.int .u8 (b.toNat : Int)) (l.map fun b => Value.int .u8 (b.toNat : Int)) := by
  induction l with
  | nil => exact .nil
  | cons b l ih => exact .cons _ _ _ _ (.int _ _) ih
theorem cell_bytes (l : List UInt8) : ∀ y ∈ l.map (fun b => Value.int .u8 (b.toNat : Int)), IsCell y := by
  intro y hy
  obtain ⟨b, _, rfl⟩ := List.mem_map.1 hy
  trivial

section
variable {P : Program} {E : Env} (hE : EnvOK P E) {μ : Mu} {h : Heap} {w : World} (hr : HR μ h w)

theorem loadCells_zero (a : Addr) (w : World) : (loadCells a 0).run P w = .ok #[] w := by
  have := run_loadCells_list (P := P) w a [] (by simp)
  simpa using this

include hr
/-- what is taken from a slice or a string -/
theorem src_ok {z n : Nat} {x : AVal} {x' : Value} {c : List AVal} (hsrc : (x = .sliceNil ∧ n = 0 ∧ c = []) ∨ (∃ b o l cp, x = .slice b o l cp ∧ n ≤ l ∧ loadCs h b o (Nat.mul n z) = .ok c) ∨ (∃ v l, x = .str v l ∧ n ≤ l ∧ c = (bytesOf l v []).take n)) (hx : V μ x x') :
    ∃ vs : List Value, (∀ w1 : World, w1.heap = w.heap → (Builtin.firstCells z n x').run P w1 = .ok vs.toArray w1) ∧ VL μ c vs ∧ (∀ y ∈ vs, IsCell y) ∧ ((∀ v l, x ≠ .str v l) → vs.length = n * z) ∧ ((∃ v l, x = .str v l) → vs.length = n) := by
  rcases hsrc with ⟨rfl, rfl, rfl⟩ | ⟨b, o, l, cp, rfl, hn, hl⟩ | ⟨v, l, rfl, hn, rfl⟩
  · cases hx
    exact ⟨[], fun w1 _ => by simp [Builtin.firstCells], .nil, by simp, fun _ => by simp, by simp⟩
  · obtain ⟨e, s, t, hb, h1⟩ := blk_cells hl (by simp)
    obtain ⟨h2, h3⟩ := ifB_eq h1 (by simp)
    have h2 := ble_true.1 h2
    have hnd := not_dead hr hb
    have go : ∀ rb sh sz off, μ b = .live rb sh sz → (off = sh + o ∨ n = 0) → ∃ vs : List Value, (∀ w1 : World, w1.heap = w.heap → (loadCells ⟨rb, off, none⟩ (n * z)).run P w1 = .ok vs.toArray w1) ∧ VL μ c vs ∧ (∀ y ∈ vs, IsCell y) ∧ vs.length = n * z := by
      intro rb sh sz off hm ho
      obtain ⟨vs, q1, q2, q3, q4⟩ := loadsW_ok (P := P) hr hb h3 h2 hm
      refine ⟨vs, fun w1 hw1 => ?_, q2, q3, q4⟩
      rcases ho with rfl | rfl
      · exact q1 w1 hw1
      · have : vs = [] := by cases vs with | nil => rfl | cons _ _ => simp at q4
        subst this
        simpa using loadCells_zero _ w1
    cases hx with
    | sliceX _ _ _ cc rb sh sz off hm hlc ho =>
      obtain ⟨vs, q1, q2, q3, q4⟩ := go rb sh sz off hm (by omega)
      exact ⟨vs, q1, q2, q3, fun _ => q4, by simp⟩
    | sliceG _ _ _ zz rb sh sz off cc hm hlc ho =>
      obtain ⟨vs, q1, q2, q3, q4⟩ := go rb sh sz off hm (by omega)
      exact ⟨vs, q1, q2, q3, fun _ => q4, by simp⟩
    | sliceDX _ _ _ cc a hm hlc => exact absurd hm hnd
    | sliceDG _ _ _ zz cc a hm hlc => exact absurd hm hnd
  · obtain ⟨s, rfl, rfl, rfl⟩ := strV hx
    rw [bytesOf_ok, List.append_nil]
    refine ⟨(s.data.toList.map fun b => Value.int .u8 (b.toNat : Int)).take n, fun w1 _ => ?_, (VL.bytes μ _).take n, fun y hy => cell_bytes _ y (List.mem_of_mem_take hy), fun h => absurd rfl (h _ _), fun _ => by rw [List.length_take, List.length_map]; exact Nat.min_eq_left hn⟩
    simp only [Builtin.firstCells, Sem.run_pure]
    congr 1
    apply Array.ext'
    rw [ByteArray.data_extract]
    simp
end
end Go.Ev
namespace Go.Ev
set_option linter.unusedVariables false
set_option linter.unusedSimpArgs false

def NoMake (P : Program) (ts : Array TypeId) : Prop := ts[1]? = none ∨ ∃ u d, ts[1]? = some u ∧ P.underlying u = some d ∧ ∀ k, d ≠ .int k

section
variable {P : Program} {w : World}
theorem app_room {ts : Array TypeId} {t e ty : TypeId} {z n sLen sCap : Nat} {base : Option Addr} {x' : Value} {vs : List Value} {w' : World} (h0 : ts[0]? = some t) (hz : NoMake P ts) (hu : P.underlying t = some (.slice e)) (hs : ∀ w, (sizeOf e).run P w = .ok z w)
    (hn : (Builtin.lenOf x').run P w = .ok n w) (hx : (Builtin.firstCells z n x').run P w = .ok vs.toArray w) (hc : sLen + n ≤ sCap) (hst : match base with | some a => (storeCells (a.add (sLen * z)) vs).run P w = .ok () w' | none => w' = w) :
    (Builtin.append_ ts ty #[.slice base sLen sCap, x']).run P w = .ok (.slice base (sLen + n) sCap) w' := by
  have e0 : (#[.slice base sLen sCap, x'] : Array Value)[0]? = some (.slice base sLen sCap) := rfl
  have e1 : (#[.slice base sLen sCap, x'] : Array Value)[1]? = some x' := rfl
  rcases hz with hz | ⟨u, d, hz, hd, hk⟩
  · simp only [Builtin.append_, h0, e0, e1, hz, Sem.run_bind, Sem.run_pure, run_underlying hu, hs, Result.andThen_ok, Bool.false_eq_true, Bool.not_false, if_true, if_false, hn, hc, hx]
    cases base with
    | none => simp only at hst; subst hst; simp
    | some a => simp only at hst; simp [hst]
  · cases d <;> first
      | exact absurd rfl (hk _)
      | (simp only [Builtin.append_, h0, e0, e1, hz, Sem.run_bind, Sem.run_pure, run_underlying hu, run_underlying hd, hs, Result.andThen_ok, Bool.false_eq_true, Bool.not_false, if_true, if_false, hn, hc, hx]
         cases base with
         | none => simp only at hst; subst hst; simp
         | some a => simp only at hst; simp [hst])

theorem app_grow {ts : Array TypeId} {t e ty : TypeId} {z n sLen sCap : Nat} {base : Option Addr} {x' zv : Value} {i : TypeInfo} {os vs : List Value} (h0 : ts[0]? = some t) (hz : NoMake P ts) (hu : P.underlying t = some (.slice e)) (hi : P.info? e = some i) (hiz : i.zero = some zv) (hs : i.size = z)
    (hn : (Builtin.lenOf x').run P w = .ok n w) (hx : (Builtin.firstCells z n x').run P w.drew = .ok vs.toArray w.drew) (ho : (Builtin.firstCells z sLen (.slice base sLen sCap)).run P w.drew = .ok os.toArray w.drew)
    (hc : ¬ sLen + n ≤ sCap) (hb : sLen + n ≤ 1048576) (hby : i.bytes ≤ 1048576) :
    (Builtin.append_ ts ty #[.slice base sLen sCap, x']).run P w = .ok (.slice (some ⟨w.heap.size, 0, none⟩) (sLen + n) (grownCap w (sLen + n) sCap e))
      (w.drew.alloc (.cells ((os ++ vs).toArray ++ Builtin.zeroCells zv.cells (grownCap w (sLen + n) sCap e - (sLen + n))) e)) := by
  have e0 : (#[.slice base sLen sCap, x'] : Array Value)[0]? = some (.slice base sLen sCap) := rfl
  have e1 : (#[.slice base sLen sCap, x'] : Array Value)[1]? = some x' := rfl
  have hfit : Builtin.nextslicecap (sLen + n) sCap * i.bytes ≤ 281474976710656 := by
    have h1 := nextslicecap_le (need := sLen + n) (old := sCap) (by omega)
    have : Builtin.nextslicecap (sLen + n) sCap * i.bytes ≤ (2 * 1048576) * 1048576 := Nat.mul_le_mul (by omega) hby
    omega
  have hf : Question.forced (.appendCap (sLen + n) sCap e) = false := rfl
  have h63 : ¬ (((sLen + n : Nat) : Int) > IntKind.i64.max) := by
    show ¬ (((sLen + n : Nat) : Int) > 9223372036854775807)
    omega
  have h48 : ¬ (Builtin.nextslicecap (sLen + n) sCap * i.bytes > 2 ^ 48) := by omega
  have ti : ∀ w, (typeInfo e).run P w = .ok i w := fun w => by simp [typeInfo, hi]
  have zr : ∀ w, (zeroValue e).run P w = .ok zv w := fun w => by simp [zeroValue, typeInfo, hi, hiz]
  have sr : ∀ w, (sizeOf e).run P w = .ok z w := fun w => by simp [sizeOf, typeInfo, hi, hs]
  rcases hz with hz | ⟨u, d, hz, hd, hk⟩
  · simp only [Builtin.append_, h0, e0, e1, hz, Sem.run_bind, Sem.run_pure, run_underlying hu, sr, Result.andThen_ok, Bool.false_eq_true, Bool.not_false, if_true, if_false, hn, hc, ti, zr, h63, h48, false_and, run_choose, World.drew_eq, hf, run_askRoom, ho, hx, newRow, run_newObj]
    simp [grownCap, World.alloc]
  · cases d <;> first
      | exact absurd rfl (hk _)
      | (simp only [Builtin.append_, h0, e0, e1, hz, Sem.run_bind, Sem.run_pure, run_underlying hu, run_underlying hd, sr, Result.andThen_ok, Bool.false_eq_true, Bool.not_false, if_true, if_false, hn, hc, ti, zr, h63, h48, false_and, run_choose, World.drew_eq, hf, run_askRoom, ho, hx, newRow, run_newObj]
         simp [grownCap, World.alloc])
end
end Go.Ev
namespace Go.Ev
set_option linter.unusedVariables false
set_option linter.unusedSimpArgs false

section
variable {P : Program} {E : Env} (hE : EnvOK P E) {μ : Mu} {h : Heap} {w : World} (hr : HR μ h w)

theorem notFroz0 (sz : Nat) : NotFroz sz (0, 0) := fun j _ h => by omega
theorem HR.drew (hr : HR μ h w) : HR μ h w.drew := hr.of_heap rfl
theorem Stp.drew {μ' : Mu} {h' : Heap} {w' : World} (s : Stp μ h w.drew μ' h' w') : Stp μ h w μ' h' w' :=
  ⟨s.hr, s.next, s.ext, s.unb, s.size, s.img, s.frame, s.tape, s.os, s.out⟩
theorem addr_add (rb off k : Nat) : (⟨rb, off, none⟩ : Addr).add k = ⟨rb, off + k, none⟩ := Addr.add_lit ..
theorem firstCells_zero {z : Nat} {x : Value} {base : Option Addr} {l c : Nat} (hx : x = .slice base l c) (w : World) : (Builtin.firstCells z 0 x).run P w = .ok #[] w := by
  subst hx
  cases base with
  | none => simp [Builtin.firstCells]
  | some a => simp only [Builtin.firstCells, Nat.zero_mul]; exact loadCells_zero a w
theorem firstCells_none {z n l c : Nat} (w : World) : (Builtin.firstCells z n (.slice none l c)).run P w = .ok #[] w := by simp [Builtin.firstCells]

/-- a new row for what there was and what is appended -/
theorem grown_row (hr : HR μ h w) {e : TypeId} {l : List AVal} {os vs : List Value} {zv : Value} {z need c : Nat} (hl : VL μ l (os ++ vs)) (hc : ∀ y ∈ os ++ vs, IsCell y) (hlen : (os ++ vs).length = need * z) (hz : zv.cells.size = z) (hcap : need ≤ c) :
    ∃ sz, need * z ≤ sz ∧ c * z ≤ sz ∧ Stp μ h w (bearM μ h.next (.live w.heap.size 0 sz)) (h.add (.cells e l.length (fillT l 0 .leaf)))
      (w.drew.alloc (.cells ((os ++ vs).toArray ++ Builtin.zeroCells zv.cells (c - need)) e)) := by
  have hsz : ((os ++ vs).toArray ++ Builtin.zeroCells zv.cells (c - need)).size = need * z + (c - need) * z := by
    rw [Array.size_append, size_zeroCells, hz, List.size_toArray, hlen]
  have hmul : need * z + (c - need) * z = c * z := by rw [← Nat.add_mul, Nat.add_sub_cancel' hcap]
  refine ⟨((os ++ vs).toArray ++ Builtin.zeroCells zv.cells (c - need)).size, by omega, by omega, Stp.drew (Stp.cells hr.drew e l _ ?_ ?_ _ (0, 0) (notFroz0 _) rfl rfl rfl rfl)⟩
  · have := hl.length
    rw [hsz]; omega
  · intro i v hv
    obtain ⟨v', h1, h2, h3⟩ := hl.all hc hv
    refine ⟨v', ?_, h2, h3⟩
    have hi : i < (os ++ vs).length := by
      rcases Nat.lt_or_ge i (os ++ vs).length with h | h
      · exact h
      · simp [List.getElem?_eq_none h] at h1
    rw [Array.getElem?_append_left (by simpa using hi)]
    simpa using h1

theorem VL.one_of {x : AVal} {x' : Value} (h : V μ x x') : VL μ [x] [x'] := .cons _ _ _ _ h .nil

/-- what stands in a slice is known in full, or not at all -/
theorem raw_cells {rb off k : Nat} {c : Array Value} {e : TypeId} {fr : Nat × Nat} (hw : w.heap[rb]? = some (.cells c e fr)) (hk : off + k ≤ c.size) (w1 : World) (h1 : w1.heap = w.heap) :
    (loadCells ⟨rb, off, none⟩ k).run P w1 = .ok ((c.toList.drop off).take k).toArray w1 := by
  have hl : ((c.toList.drop off).take k).length = k := by simp; omega
  have := run_loadCells_list (P := P) w1 ⟨rb, off, none⟩ ((c.toList.drop off).take k) (fun j v hv => by
    rw [Addr.add_lit]
    refine cell_of (by rw [h1]; exact hw) ?_
    rw [List.getElem?_take] at hv
    split at hv
    · rw [List.getElem?_drop] at hv; simpa using hv
    · simp at hv)
  rw [hl] at this; exact this

include hE hr
theorem append_ok {ts : Array TypeId} {t e ty : TypeId} {ag : Bool} {z : Nat} {zl : List AVal} {s x v : AVal} {s' x' : Value} {h' : Heap} (h0 : ts[0]? = some t) (hz : NoMake P ts) (he : elemO E t = some (e, ag, z)) (hz0 : cells0 E e = .ok zl) (hzl : zl.length = z)
    (hl : appendA e z (byOf E e) h s x = .ok v h') (hs : V μ s s') (hx : V μ x x') : Res P (Builtin.append_ ts ty #[s', x']) μ h w v h' := by
  obtain ⟨hu, hty⟩ := elemO_ok hE he
  obtain ⟨i, zv, hi, hiz, _, hzv, _⟩ := zero_ok (μ := μ) hE (w := w) hz0
  have hzs : zv.cells.size = z := by have := hzv.length; simp at this; omega
  have hsz : i.size = z := by
    obtain ⟨j, d, a, b, _⟩ := ty_ok hE hty
    rw [hi] at a; simp at a; subst a; exact b
  have hby : byOf E e = i.bytes := by
    unfold cells0 zeroOf at hz0
    unfold byOf
    cases hei : E.info e with
    | none => rw [hei] at hz0; simp [cellsL] at hz0
    | some j => have := hE.info e j hei; rw [hi] at this; simp at this; subst this; rfl
  have srun := run_sizeOf_ok hE hty
  -- what is appended
  have src : ∃ n c, ((x = .sliceNil ∧ n = 0 ∧ c = []) ∨ (∃ b o l cp, x = .slice b o l cp ∧ n ≤ l ∧ loadCs h b o (Nat.mul n z) = .ok c) ∨ (∃ v l, x = .str v l ∧ n ≤ l ∧ c = (bytesOf l v []).take n)) ∧ (Builtin.lenOf x').run P w = .ok n w ∧ ((∃ v l, x = .str v l) → z = 1) ∧
      (match (generalizing := false) s with
        | .sliceNil => ifB (Nat.beq n 0) (R2.ok .sliceNil h) (ifB (appOk z (byOf E e) 0 n) (newCells h e c fun b => .slice b 0 n (.grow z)) .no)
        | .slice b o l cap => ifB (Nat.beq n 0) (R2.ok s h) (ifB (appOk z (byOf E e) l n) (appSl e z h b o l cap n c) .no)
        | _ => R2.no) = R2.ok v h' := by
    unfold appendA at hl
    cases x <;> simp only [srcA] at hl <;> try (simp at hl; done)
    · obtain ⟨h1, h2⟩ := ifB_eq hl (by simp)
      have h1 := beq_true.1 h1
      obtain ⟨sb, rfl, rfl, rfl⟩ := strV hx
      have hbl : (bytesOf sb.data.toList.length (packL sb.data.toList 0) []).length = sb.data.toList.length := by rw [bytesOf_ok]; simp
      refine ⟨sb.data.toList.length, _, .inr (.inr ⟨_, _, rfl, Nat.le_refl _, rfl⟩), ?_, fun _ => h1, ?_⟩
      · have : sb.data.toList.length = sb.size := by rw [Array.length_toList]; rfl
        rw [this]; simp [Builtin.lenOf]
      · have e1 : (bytesOf sb.data.toList.length (packL sb.data.toList 0) []).take sb.data.toList.length = bytesOf sb.data.toList.length (packL sb.data.toList 0) [] := List.take_of_length_le (by omega)
        rw [e1]; exact h2
    · cases hx
      exact ⟨0, [], .inl ⟨rfl, rfl, rfl⟩, by simp [Builtin.lenOf], by simp, hl⟩
    · rename_i b o l cp
      cases hc : loadCs h b o (Nat.mul l z) with
      | no => rw [hc] at hl; simp at hl
      | ok c =>
        rw [hc] at hl
        exact ⟨l, c, .inr (.inl ⟨b, o, l, cp, rfl, Nat.le_refl _, hc⟩), by cases hx <;> simp [Builtin.lenOf], by simp, hl⟩
  obtain ⟨n, c, hsrc, hn, hstr, hl⟩ := src
  obtain ⟨vs, hvs, hvl, hvc, hvn1, hvn2⟩ := src_ok (P := P) hr (z := z) hsrc hx
  have hvn : vs.length = n * z := by
    by_cases hst : ∃ v l, x = .str v l
    · rw [hvn2 hst, hstr hst, Nat.mul_one]
    · exact hvn1 fun v l e => hst ⟨v, l, e⟩
  have hcn := hvl.length
  cases s <;> simp only at hl <;> try (simp at hl; done)
  · cases hs
    cases hn0 : Nat.beq n 0 with
    | true =>
      rw [hn0] at hl
      obtain ⟨rfl, rfl⟩ := R2.ok_inj hl
      obtain rfl := beq_true.1 hn0
      exact ⟨.slice none 0 0, w, μ, app_room (base := none) h0 hz hu srun hn (hvs w rfl) (Nat.le_refl _) rfl, Stp.refl hr, .sliceNil⟩
    | false =>
      rw [hn0, ifB_false] at hl
      have hn1 : n ≠ 0 := fun e => by rw [e] at hn0; simp at hn0
      obtain ⟨h1, h2⟩ := ifB_eq hl (by simp)
      simp only [appOk, Bool.and_eq_true, ble_true] at h1
      obtain ⟨⟨⟨a1, a2⟩, a3⟩, a4⟩ := h1
      have a4 : 0 + n ≤ 1048576 := a4
      have hlast := app_grow (w := w) (base := none) (os := []) (sLen := 0) (sCap := 0) (ty := ty) h0 hz hu hi hiz hsz hn (hvs w.drew rfl) (by simpa using firstCells_none (P := P) w.drew) (by omega) (by omega) (by rw [← hby]; exact a3)
      rw [newCells_eq] at h2
      obtain ⟨rfl, rfl⟩ := R2.ok_inj h2
      obtain ⟨sz, b1, b2, b3⟩ := grown_row hr (e := e) (os := []) (vs := vs) (l := c) (zv := zv) (need := 0 + n) (z := z) (c := grownCap w (0 + n) 0 e) (by simpa using hvl) (by simpa using hvc) (by simpa using hvn) hzs (grownCap_ge ..)
      refine ⟨_, _, _, hlast, b3, ?_⟩
      rw [Nat.zero_add]
      exact .sliceG h.next 0 n z w.heap.size 0 sz 0 (grownCap w n 0 e) (bear_same _ _ _) (grownCap_ge ..) (.inr ⟨rfl, by rw [Nat.zero_add] at b2; omega⟩)
  · rename_i b o l cap _
    have hbase : ∃ a cc, s' = .slice (some a) l cc ∧ l ≤ cc := by
      cases hs <;> exact ⟨_, _, rfl, by assumption⟩
    cases hn0 : Nat.beq n 0 with
    | true =>
      rw [hn0] at hl
      obtain ⟨rfl, rfl⟩ := R2.ok_inj hl
      obtain rfl := beq_true.1 hn0
      obtain ⟨a, cc, rfl, hcc⟩ := hbase
      have : vs = [] := by cases vs with | nil => rfl | cons _ _ => simp at hvn
      subst this
      exact ⟨_, w, μ, app_room (base := some a) h0 hz hu srun hn (hvs w rfl) hcc (by simp [storeCells]), Stp.refl hr, hs⟩
    | false =>
      rw [hn0, ifB_false] at hl
      have hn1 : n ≠ 0 := fun e => by rw [e] at hn0; simp at hn0
      obtain ⟨h1, h2⟩ := ifB_eq hl (by simp)
      simp only [appOk, Bool.and_eq_true, ble_true] at h1
      obtain ⟨⟨⟨a1, a2⟩, a3⟩, a4⟩ := h1
      have a4 : l + n ≤ 1048576 := a4
      have hmul : (l + n) * z = l * z + n * z := Nat.add_mul ..
      cases cap with
      | exact cp =>
        have h2 : ifB (Nat.ble (Nat.add l n) cp) (forceN (Nat.add l n) fun ln => appRoom b o l ln z (.exact cp) h c) (appMove e b o l n z h c) = .ok v h' := h2
        cases hfit : Nat.ble (Nat.add l n) cp with
        | true =>
          rw [hfit] at h2
          have hfit : l + n ≤ cp := ble_true.1 hfit
          simp only [ifB_true, forceN_eq, appRoom] at h2
          have : ∃ h1, storeCs h b (Nat.add o (Nat.mul l z)) c = .ok h1 ∧ v = .slice b o (Nat.add l n) (.exact cp) ∧ h1 = h' := by
            cases e : storeCs h b (Nat.add o (Nat.mul l z)) c with
            | no => rw [e] at h2; simp at h2
            | ok h1 => rw [e] at h2; simp at h2; exact ⟨h1, rfl, h2.1.symm, h2.2⟩
          obtain ⟨h1, h3, rfl, rfl⟩ := this
          cases hs with
          | sliceX _ _ _ _ rb sh sz off hm hlc ho =>
            obtain ⟨w', q1, q2⟩ := stores_ok (P := P) hr h3 hm hvl hvc
            have hoff : off = sh + o := by omega
            subst hoff
            refine ⟨_, w', μ, app_room (base := some ⟨rb, sh + o, none⟩) h0 hz hu srun hn (hvs w rfl) hfit ?_, q2, .sliceX b o (l + n) cp rb sh sz _ hm hfit (.inr rfl)⟩
            simp only [addr_add]
            rw [Nat.add_assoc]; exact q1
          | sliceDX _ _ _ _ a hm hlc =>
            obtain ⟨e', s, t', hb, _⟩ := blk_cells h3 (by simp)
            exact absurd hm (not_dead hr hb)
        | false =>
          rw [hfit] at h2
          have hfit : ¬ l + n ≤ cp := fun h => by
            have := ble_true.2 h
            have hfit : Nat.ble (l + n) cp = false := hfit
            rw [hfit] at this; simp at this
          simp only [ifB_false, appMove] at h2
          obtain ⟨old, h3, h4⟩ := RL.on_eq h2 (by simp)
          rw [forceN_eq, newCells_eq] at h4
          obtain ⟨rfl, rfl⟩ := R2.ok_inj h4
          obtain ⟨os, ho1, ho2, ho3, ho4, _⟩ := src_ok (P := P) hr (z := z) (n := l) (x := .slice b o l (.exact cp)) (.inr (.inl ⟨b, o, l, _, rfl, Nat.le_refl _, h3⟩)) hs
          have ho4 := ho4 (by simp)
          obtain ⟨a, cc, rfl, hcc⟩ := hbase
          obtain rfl : cc = cp := by cases hs <;> rfl
          have hlast := app_grow (w := w) (base := some a) (ty := ty) h0 hz hu hi hiz hsz hn (hvs w.drew rfl) (ho1 w.drew rfl) hfit a4 (by rw [← hby]; exact a3)
          obtain ⟨sz, b1, b2, b3⟩ := grown_row hr (e := e) (os := os) (vs := vs) (l := old ++ c) (zv := zv) (need := l + n) (z := z) (c := grownCap w (l + n) cc e) (ho2.append hvl)
            (fun y hy => (List.mem_append.1 hy).elim (ho3 y) (hvc y)) (by rw [List.length_append]; omega) hzs (grownCap_ge ..)
          exact ⟨_, _, _, hlast, b3, .sliceG h.next 0 (l + n) z w.heap.size 0 sz 0 _ (bear_same _ _ _) (grownCap_ge ..) (.inr ⟨rfl, by omega⟩)⟩
      | grow y =>
        obtain ⟨hy, h3⟩ := ifB_eq (show ifB (Nat.beq y z) (appGrow e b o l n z h c) .no = .ok v h' from h2) (by simp)
        obtain rfl := beq_true.1 hy
        obtain ⟨e', sb, tb, hb, h4⟩ := blk_cells h3 (by simp)
        obtain ⟨h5, h6⟩ := ifB_eq h4 (by simp)
        simp only [Bool.and_eq_true, beq_true, ble_true] at h5
        obtain ⟨⟨rfl, h5⟩, rfl⟩ := h5
        have h5 : l * y ≤ sb := h5
        simp only [forceN_eq] at h6
        obtain ⟨rfl, rfl⟩ := R2.ok_inj h6
        have hnd := not_dead hr hb
        cases hs with
        | sliceDG _ _ _ _ cc a hm hlc => exact absurd hm hnd
        | sliceG _ _ _ _ rb sh sz off cc hm hlc ho =>
          obtain rfl := hr.zero b rb sh sz hm
          obtain ⟨⟨ca, fr, c1, c2, c3, c4⟩, hf⟩ := live_cells hr hb hm
          subst c2
          have hmem : ∀ i v, i < (l + n) * y → (fillT c (l * y) tb).get i = some v → (l * y ≤ i ∧ ∃ v', vs[i - l * y]? = some v' ∧ V μ v v' ∧ IsCell v') ∨ (i < l * y ∧ ∃ v', ca[0 + i]? = some v' ∧ V μ v v' ∧ IsCell v') := by
            intro i v hi hg
            rw [fillT_get] at hg
            by_cases hin : l * y ≤ i ∧ i < l * y + c.length
            · rw [if_pos hin] at hg
              obtain ⟨v', q⟩ := hvl.all hvc hg
              exact .inl ⟨hin.1, v', q⟩
            · rw [if_neg hin] at hg
              exact .inr ⟨by omega, c4 i v (by omega) hg⟩
          by_cases hroom : l + n ≤ cc
          · -- the real one has room: the old block is the new one
            clear hbase
            rcases ho with hc0 | ⟨rfl, hfit⟩
            · omega
            have hle : (l + n) * y ≤ cc * y := Nat.mul_le_mul_right _ hroom
            obtain ⟨w', c', s1, s2, s3, s4, s5, s6, s7, s8, s9⟩ := stores_run (P := P) (off := l * y) vs 0 ca w c1 c3 (by omega) hvc
            refine ⟨_, w', _, app_room (base := some ⟨rb, 0 + 0, none⟩) h0 hz hu srun hn (hvs w rfl) hroom ?_, Stp.take hr hb (by simp) hm (.cells e ((l + n) * y) (fillT c (l * y) tb)) 0 ca.size rfl w' s5 s6 s7 s8 s9 ⟨⟨c', fr, s2, s3, c3, ?_⟩, by omega⟩,
              .sliceG h.next 0 (l + n) y rb 0 ca.size (0 + 0) cc (bear_same _ _ _) hroom (.inr ⟨rfl, hfit⟩)⟩
            · simp only [addr_add, Nat.zero_add]; exact s1
            · intro i v hi hg
              have hext : Ext μ (bearM (bearM μ b .dead) h.next (.live rb 0 ca.size)) := (Ext.kill μ hm).trans (Ext.bear _ (by
                have hlt : b < h.next := by
                  rcases Nat.lt_or_ge b h.next with h' | h'
                  · exact h'
                  · rw [hr.fresh b h'] at hm; simp at hm
                rw [bear_ne _ _ (by omega)]; exact hr.fresh _ (Nat.le_refl _)))
              rcases hmem i v hi hg with ⟨q0, v', q1, q2, q3⟩ | ⟨q0, v', q1, q2, q3⟩
              · refine ⟨v', ?_, q2.mono hext, q3⟩
                rw [s4, if_pos (by omega), ← q1]; congr 1; omega
              · refine ⟨v', ?_, q2.mono hext, q3⟩
                rw [s4, if_neg (by omega)]; exact q1
          · -- the real one has none: all is copied
            have hraw : ∃ os : List Value, (Builtin.firstCells y l (.slice (some ⟨rb, off, none⟩) l cc)).run P w.drew = .ok os.toArray w.drew ∧ os.length = l * y ∧ ∀ i, i < l * y → os[i]? = ca[0 + i]? := by
              rcases ho with hc0 | ⟨rfl, hfit⟩
              · obtain rfl : l = 0 := by omega
                exact ⟨[], firstCells_zero rfl _, by simp, fun i hi => by omega⟩
              · have hle : l * y ≤ cc * y := Nat.mul_le_mul_right _ hlc
                have := raw_cells (P := P) (off := 0 + 0) (k := l * y) c1 (by omega) w.drew rfl
                refine ⟨_, this, by simp; omega, fun i hi => ?_⟩
                rw [List.getElem?_take, if_pos hi]; simp
            obtain ⟨os, ho1, ho2, ho3⟩ := hraw
            have hlast := app_grow (w := w) (base := some ⟨rb, off, none⟩) (ty := ty) h0 hz hu hi hiz hsz hn (hvs w.drew rfl) ho1 hroom a4 (by rw [← hby]; exact a3)
            have k := Stp.kill hr hb hm w rfl (fun _ _ => rfl) (.inl rfl) rfl rfl rfl
            have hrow : ((os ++ vs).toArray ++ Builtin.zeroCells zv.cells (grownCap w (l + n) cc e - (l + n))).size = (l + n) * y + (grownCap w (l + n) cc e - (l + n)) * y := by
              rw [Array.size_append, size_zeroCells, hzs, List.size_toArray, List.length_append]; omega
            have hge := grownCap_ge w (l + n) cc e
            have hm2 : (l + n) * y + (grownCap w (l + n) cc e - (l + n)) * y = grownCap w (l + n) cc e * y := by rw [← Nat.add_mul, Nat.add_sub_cancel' hge]
            have al := Stp.alloc k.hr.drew (.cells e ((l + n) * y) (fillT c (l * y) tb)) (.cells ((os ++ vs).toArray ++ Builtin.zeroCells zv.cells (grownCap w (l + n) cc e - (l + n))) e)
              (w.drew.alloc (.cells ((os ++ vs).toArray ++ Builtin.zeroCells zv.cells (grownCap w (l + n) cc e - (l + n))) e)) rfl rfl rfl rfl ((l + n) * y + (grownCap w (l + n) cc e - (l + n)) * y) ⟨⟨_, (0, 0), Array.getElem?_push_size, hrow, notFroz0 _, ?_⟩, by omega⟩
            · refine ⟨_, _, _, hlast, k.trans (Stp.drew al), ?_⟩
              exact .sliceG h.next 0 (l + n) y w.heap.size 0 _ 0 _ (bear_same _ _ _) hge (.inr ⟨rfl, by omega⟩)
            · intro i v hi hg
              have hun : bearM μ b .dead h.next = .unborn := k.hr.fresh _ (Nat.le_refl _)
              have hext : ∀ s, Ext μ (bearM (bearM μ b .dead) h.next s) := fun s => k.ext.trans (Ext.bear s hun)
              have hget : ∀ v', (os ++ vs)[i]? = some v' → ((os ++ vs).toArray ++ Builtin.zeroCells zv.cells (grownCap w (l + n) cc e - (l + n)))[0 + i]? = some v' := by
                intro v' hv'
                have hi' : i < (os ++ vs).length := by
                  rcases Nat.lt_or_ge i (os ++ vs).length with h | h
                  · exact h
                  · simp [List.getElem?_eq_none h] at hv'
                rw [Nat.zero_add, Array.getElem?_append_left (by simpa using hi')]
                simpa using hv'
              rcases hmem i v hi hg with ⟨q0, v', q1, q2, q3⟩ | ⟨q0, v', q1, q2, q3⟩
              · refine ⟨v', hget v' ?_, q2.mono (hext _), q3⟩
                rw [List.getElem?_append_right (by omega), ho2]; exact q1
              · refine ⟨v', hget v' ?_, q2.mono (hext _), q3⟩
                rw [List.getElem?_append_left (by omega), ho3 i q0]; exact q1
end
end Go.Ev
