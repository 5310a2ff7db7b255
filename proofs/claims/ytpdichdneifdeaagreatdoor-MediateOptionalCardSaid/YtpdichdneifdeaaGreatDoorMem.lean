import Derived.Test.YtpdichdneifdeaaGreatDoorEvF
namespace Go.Ev
set_option linter.unusedVariables false
set_option linter.unusedSimpArgs false

/-! ### what a call came to once, it comes to again -/
noncomputable section
def placeIn (b : Nat) : List Nat → Option Nat :=
  List.rec (motive := fun _ => Option Nat) none (fun x _ ih => ifB (Nat.beq b x) (some 0) (onO ih none fun n => some (Nat.succ n)))
end
mutual
/-- a value, its blocks numbered anew; of what is not kept nothing is said -/
noncomputable def reV (ks : List Nat) (x : AVal) : AVal :=
  match x with
  | .ptr b o => onO (placeIn b ks) .unk fun i => .ptr i o
  | .slice b o l c => onO (placeIn b ks) .unk fun i => .slice i o l c
  | .map _ => .unk
  | .func _ _ => .unk
  | .iface _ _ => .unk
  | .agg l => .agg (reL ks l)
  | .tuple l => .tuple (reL ks l)
  | x => x
noncomputable def reL (ks : List Nat) (l : List AVal) : List AVal :=
  match l with
  | [] => []
  | x :: l => reV ks x :: reL ks l
end
noncomputable section
/-- are these blocks there? -/
def blksOk (h : Heap) (all : List Nat) : List Nat → List (TypeId × List AVal) → Bool :=
  List.rec (motive := fun _ => List (TypeId × List AVal) → Bool) (fun bs => match bs with | [] => true | _ => false)
    (fun b _ ih bs => match bs with
      | [] => false
      | p :: bs => onCells false h b (fun e s t => Nat.beq e p.1 && (Nat.beq s p.2.length && (loadN t s 0).on false fun m => sameL (reL all m) p.2)) && ih bs)
def upFrom : Nat → List Nat → Bool := fun n l => List.rec (motive := fun _ => Nat → Bool) (fun _ => true) (fun b _ ih n => Nat.ble n b && ih (Nat.succ b)) l n
def isStrs (l : List AVal) : Bool := List.rec (motive := fun _ => Bool) true (fun x _ ih => match x with | .str _ _ => ih | _ => false) l
/-- is it this that the call comes to? -/
def cutOk (r : R2) (ks : List Nat) (c : Cut) : Bool :=
  match r with
  | .ok v h => upFrom 0 ks && (AVal.same (reV ks v) c.v && blksOk h ks ks c.bs)
  | .no => false
end

theorem placeIn_ok {b : Nat} : ∀ {ks : List Nat} {i : Nat}, placeIn b ks = some i → ks[i]? = some b := by
  intro ks
  induction ks with
  | nil => intro i h; exact absurd (show (none : Option Nat) = some i from h) (by simp)
  | cons x ks ih =>
    intro i h
    have h' : ifB (Nat.beq b x) (some 0) (onO (placeIn b ks) none fun n => some (Nat.succ n)) = some i := h
    cases hb : Nat.beq b x with
    | true => rw [hb, ifB_true] at h'; cases h'; rw [Nat.eq_of_beq_eq_true hb]; rfl
    | false =>
      rw [hb, ifB_false] at h'
      obtain ⟨n, h1, h2⟩ := onO_eq h' (by simp)
      simp at h2; subst h2
      simpa using ih h1
theorem upFrom_ok : ∀ {l : List Nat} {n : Nat}, upFrom n l = true → ∀ {i j a b : Nat}, l[i]? = some a → l[j]? = some b → (n ≤ a) ∧ (a = b → i = j) := by
  intro l
  induction l with
  | nil => intro n _ i j a b h; simp at h
  | cons x l ih =>
    intro n h i j a b hi hj
    obtain ⟨h1, h2⟩ := Bool.and_eq_true_iff.1 (show (Nat.ble n x && upFrom (Nat.succ x) l) = true from h)
    have h1 := ble_true.1 h1
    cases i with
    | zero =>
      simp at hi; subst hi
      refine ⟨h1, fun e => ?_⟩
      cases j with
      | zero => rfl
      | succ j => simp at hj; have := (ih h2 hj hj).1; omega
    | succ i =>
      simp at hi
      have h3 := (ih h2 hi hi).1
      refine ⟨by omega, fun e => ?_⟩
      cases j with
      | zero => simp at hj; omega
      | succ j => simp at hj; rw [(ih h2 hi hj).2 e]
theorem blksOk_ok {h : Heap} {all : List Nat} : ∀ {ks : List Nat} {bs : List (TypeId × List AVal)}, blksOk h all ks bs = true → ks.length = bs.length ∧ ∀ (i b : Nat) (p : TypeId × List AVal), ks[i]? = some b → bs[i]? = some p → ∃ s t m, h.blk b = some (.cells p.1 s t) ∧ s = p.2.length ∧ loadN t s 0 = .ok m ∧ reL all m = p.2 := by
  intro ks
  induction ks with
  | nil =>
    intro bs hb
    cases bs with
    | nil => exact ⟨rfl, fun i b p h => by simp at h⟩
    | cons p bs => exact absurd (show false = true from hb) (by simp)
  | cons b ks ih =>
    intro bs hb
    cases bs with
    | nil => exact absurd (show false = true from hb) (by simp)
    | cons p bs =>
      obtain ⟨h1, h2⟩ := Bool.and_eq_true_iff.1 (show (onCells false h b (fun e s t => Nat.beq e p.1 && (Nat.beq s p.2.length && (loadN t s 0).on false fun m => sameL (reL all m) p.2)) && blksOk h all ks bs) = true from hb)
      obtain ⟨a, q⟩ := ih h2
      refine ⟨by simp [a], fun i b' p' hi hp => ?_⟩
      cases i with
      | zero =>
        simp at hi hp; subst hi hp
        obtain ⟨e, s, t, h3, h4⟩ := blk_cells h1 (by simp)
        rw [Bool.and_eq_true, Bool.and_eq_true, beq_true, beq_true] at h4
        obtain ⟨rfl, h5, h6⟩ := h4
        obtain ⟨m, h7, h8⟩ := RL.on_eq h6 (by simp)
        exact ⟨s, t, m, h3, h5, h7, sameL_eq _ _ h8⟩
      | succ i => exact q i b' p' (by simpa using hi) (by simpa using hp)

theorem addBs_blk (n : Nat) : ∀ (bs : List (TypeId × List AVal)) (h : Heap), (addBs n bs h).next = h.next + bs.length ∧
    ∀ b, (addBs n bs h).blk b = (if b < h.next then h.blk b else match bs[b - h.next]? with | some p => some (.cells p.1 p.2.length (fillT (shL n p.2) 0 .leaf)) | none => h.blk b) := by
  intro bs
  induction bs with
  | nil => intro h; exact ⟨rfl, fun b => by simp; rfl⟩
  | cons p bs ih =>
    intro h
    have e : addBs n (p :: bs) h = addBs n bs (h.add (.cells p.1 p.2.length (fillT (shL n p.2) 0 .leaf))) := by
      have e1 : addBs n (p :: bs) h = forceN h.next fun nx => addBs n bs ⟨Nat.succ nx, h.t.set nx (.cells p.1 p.2.length (fillT (shL n p.2) 0 .leaf))⟩ := rfl
      rw [e1, forceN_eq]; rfl
    obtain ⟨h1, h2⟩ := ih (h.add (.cells p.1 p.2.length (fillT (shL n p.2) 0 .leaf)))
    have hn : (h.add (ABlk.cells p.1 p.2.length (fillT (shL n p.2) 0 .leaf))).next = h.next + 1 := rfl
    rw [e]
    refine ⟨by rw [h1, hn]; simp; omega, fun b => ?_⟩
    rw [h2, hn, Heap.blk_add]
    by_cases h3 : b < h.next
    · rw [if_pos (by omega), if_neg (by omega), if_pos h3]
    · rw [if_neg h3]
      by_cases h4 : b = h.next
      · subst h4; simp
      · rw [if_neg (by omega), if_neg h4]
        have : b - h.next = (b - (h.next + 1)) + 1 := by omega
        rw [this, List.getElem?_cons_succ]

/-- the blocks' numbers, anew -/
def cutM (n : Nat) (ks : List Nat) (μ μ' : Mu) : Mu := fun b => if b < n then μ b else match ks[b - n]? with | some k => μ' k | none => .unborn
section
variable {n : Nat} {ks : List Nat} {μ μ' : Mu}
theorem cutM_at {i b : Nat} (h : ks[i]? = some b) : cutM n ks μ μ' (n + i) = μ' b := by
  unfold cutM
  rw [if_neg (by omega), show n + i - n = i by omega, h]
theorem isCell_of {x : AVal} {y : Value} (h : V μ x y) (hx : (∃ b o, x = .ptr b o) ∨ (∃ b o l c, x = .slice b o l c) ∨ (∃ b, x = .map b) ∨ (∃ f l, x = .func f l) ∨ ∃ t v, x = .iface t v) : IsCell y := by
  rcases hx with ⟨b, o, rfl⟩ | ⟨b, o, l, c, rfl⟩ | ⟨b, rfl⟩ | ⟨f, l, rfl⟩ | ⟨t, v, rfl⟩ <;> cases h <;> trivial
mutual
theorem reV_ok {x : AVal} {y : Value} (h : V μ' x y) : V (cutM n ks μ μ') (shV n (reV ks x)) y := by
  cases x with
  | ptr b o =>
    simp only [reV]
    cases hp : placeIn b ks with
    | none => exact .unk _ (isCell_of h (.inl ⟨_, _, rfl⟩))
    | some i =>
      have hm := cutM_at (n := n) (μ := μ) (μ' := μ') (placeIn_ok hp)
      show V _ (.ptr (n + i) o) y
      cases h with
      | ptr _ _ rb sh sz e => exact .ptr _ _ rb sh sz (by rw [hm]; exact e)
      | ptrDead _ _ a e => exact .ptrDead _ _ a (by rw [hm]; exact e)
  | slice b o l c =>
    simp only [reV]
    cases hp : placeIn b ks with
    | none => exact .unk _ (isCell_of h (.inr (.inl ⟨_, _, _, _, rfl⟩)))
    | some i =>
      have hm := cutM_at (n := n) (μ := μ) (μ' := μ') (placeIn_ok hp)
      show V _ (.slice (n + i) o l c) y
      cases h with
      | sliceX _ _ _ cc rb sh sz off e hl ho => exact .sliceX _ _ _ cc rb sh sz off (by rw [hm]; exact e) hl ho
      | sliceG _ _ _ z rb sh sz off cc e hl hr => exact .sliceG _ _ _ z rb sh sz off cc (by rw [hm]; exact e) hl hr
      | sliceDX _ _ _ cc a e hl => exact .sliceDX _ _ _ cc a (by rw [hm]; exact e) hl
      | sliceDG _ _ _ z cc a e hl => exact .sliceDG _ _ _ z cc a (by rw [hm]; exact e) hl
  | map b => exact .unk _ (isCell_of h (.inr (.inr (.inl ⟨_, rfl⟩))))
  | func f l => exact .unk _ (isCell_of h (.inr (.inr (.inr (.inl ⟨_, _, rfl⟩)))))
  | iface t v => exact .unk _ (isCell_of h (.inr (.inr (.inr (.inr ⟨_, _, rfl⟩)))))
  | agg l => cases h with | agg _ a hl hc => exact .agg _ a (reL_ok hl) hc
  | tuple l => cases h with | tuple _ a hl => exact .tuple _ a (reL_ok hl)
  | bool b => cases h; exact .bool b
  | int k m => cases h; exact .int k m
  | str a l => cases h with | str s => exact .str s
  | ptrNil => cases h; exact .ptrNil
  | sliceNil => cases h; exact .sliceNil
  | mapNil => cases h; exact .mapNil
  | nilFunc => cases h; exact .nilFunc
  | nilIface => cases h; exact .nilIface
  | float b => cases h; exact .float b
  | cplx a b => cases h; exact .cplx a b
  | res u m r => cases h with | resI _ _ x e => exact .resI _ _ x e | resU _ _ x e => exact .resU _ _ x e
  | unk => cases h with | unk _ e => exact .unk _ e
  | bad => exact .bad _
theorem reL_ok {l : List AVal} {m : List Value} (h : VL μ' l m) : VL (cutM n ks μ μ') (shL n (reL ks l)) m := by
  cases l with
  | nil => cases h; exact .nil
  | cons x l => cases h with | cons _ y _ m hx hl => exact .cons _ _ _ _ (reV_ok hx) (reL_ok hl)
end
end
theorem shL_length (n : Nat) : ∀ l : List AVal, (shL n l).length = l.length := by
  intro l
  induction l with
  | nil => rfl
  | cons x l ih => simp [shL, ih]
theorem shL_get (n : Nat) : ∀ (l : List AVal) (i : Nat), (shL n l)[i]? = (l[i]?).map (shV n) := by
  intro l
  induction l with
  | nil => intro i; simp [shL]
  | cons x l ih => intro i; cases i with | zero => simp [shL] | succ i => simp [shL, ih]
theorem reL_get (ks : List Nat) : ∀ (l : List AVal) (i : Nat), (reL ks l)[i]? = (l[i]?).map (reV ks) := by
  intro l
  induction l with
  | nil => intro i; simp [reL]
  | cons x l ih => intro i; cases i with | zero => simp [reL] | succ i => simp [reL, ih]

/-- the same call in another state -/
theorem cut_stp {μ μ' : Mu} {h h' : Heap} {w w' : World} {v : AVal} {y : Value} {ks : List Nat} {c : Cut} (hr : HR μ h w) (st : Stp (fun _ => .unborn) ⟨0, .leaf⟩ w μ' h' w') (hv : V μ' v y) (hk : cutOk (.ok v h') ks c = true) :
    Stp μ h w (cutM h.next ks μ μ') (addBs h.next c.bs h) w' ∧ V (cutM h.next ks μ μ') (shV h.next c.v) y := by
  obtain ⟨k1, k2⟩ := Bool.and_eq_true_iff.1 (show (upFrom 0 ks && (AVal.same (reV ks v) c.v && blksOk h' ks ks c.bs)) = true from hk)
  obtain ⟨k2, k3⟩ := Bool.and_eq_true_iff.1 k2
  have k2 := same_eq _ _ k2
  obtain ⟨hlen, hblk⟩ := blksOk_ok k3
  have na : ∀ r, ¬ Alive (fun _ => Status.unborn) ⟨0, .leaf⟩ r := fun r ⟨b, x, sh, sz, hb, hd, hm⟩ => by simp at hm
  have same : ∀ r, r < w.heap.size → w'.heap[r]? = w.heap[r]? := fun r hlt => st.frame r hlt (na r)
  obtain ⟨hn, hB⟩ := addBs_blk h.next c.bs h
  -- the old ones, and the new ones
  have low : ∀ b, b < h.next → cutM h.next ks μ μ' b = μ b := fun b hb => by unfold cutM; rw [if_pos hb]
  have un : ∀ b, h.next ≤ b → μ b = .unborn := hr.fresh
  have ext : Ext μ (cutM h.next ks μ μ') := fun b => by
    by_cases hb : b < h.next
    · rw [low b hb]; exact ⟨id, fun _ _ _ e => .inl e⟩
    · rw [un b (by omega)]; exact ⟨fun e => (by simp at e), fun _ _ _ e => (by simp at e)⟩
  have hi : ∀ b x, h.next ≤ b → (addBs h.next c.bs h).blk b = some x → cutM h.next ks μ μ' b = .unborn ∨ ∃ k p s t m, ks[b - h.next]? = some k ∧ c.bs[b - h.next]? = some p ∧ cutM h.next ks μ μ' b = μ' k ∧ x = .cells p.1 p.2.length (fillT (shL h.next p.2) 0 .leaf) ∧ h'.blk k = some (.cells p.1 s t) ∧ s = p.2.length ∧ loadN t s 0 = .ok m ∧ reL ks m = p.2 := fun b x hb hx => by
    rw [hB, if_neg (by omega)] at hx
    cases hp : c.bs[b - h.next]? with
    | none =>
      left
      have : ks[b - h.next]? = none := by rw [List.getElem?_eq_none_iff] at hp ⊢; omega
      unfold cutM; rw [if_neg (by omega), this]
    | some p =>
      right
      rw [hp] at hx
      simp at hx
      have hlt : b - h.next < ks.length := by rw [hlen]; exact (List.getElem?_eq_some_iff.1 hp).1
      obtain ⟨k, hkk⟩ : ∃ k, ks[b - h.next]? = some k := ⟨ks[b - h.next], by simp [hlt]⟩
      obtain ⟨s, t, m, e1, e2, e3, e4⟩ := hblk _ k p hkk hp
      exact ⟨k, p, s, t, m, hkk, rfl, by unfold cutM; rw [if_neg (by omega), hkk], hx.symm, e1, e2, e3, e4⟩
  have born : ∀ k x r sh sz, h'.blk k = some x → x ≠ .dead → μ' k = .live r sh sz → w.heap.size ≤ r := fun k x r sh sz hx hd hm => by
    rcases Nat.lt_or_ge r w.heap.size with hlt | hge
    · exact absurd (st.img r hlt ⟨k, x, sh, sz, hx, hd, hm⟩) (na r)
    · exact hge
  have old : ∀ b x r sh sz, b < h.next → h.blk b = some x → x ≠ .dead → μ b = .live r sh sz → r < w.heap.size := fun b x r sh sz _ hx hd hm => Alive.lt hr ⟨b, x, sh, sz, hx, hd, hm⟩
  have lowB : ∀ b, b < h.next → (addBs h.next c.bs h).blk b = h.blk b := fun b hb => by rw [hB, if_pos hb]
  refine ⟨⟨⟨fun b rb sh sz hm => ?_, fun b hb => ?_, fun b x hx => ?_, fun b b' x x' r sh sz sh' sz' hx hx' hd hd' hm hm' => ?_⟩, by rw [hn]; omega, ext, fun b hb e => by rw [low b hb]; exact e, st.size, fun r hlt al => ?_, fun r hlt _ => same r hlt, st.tape, st.os, st.out⟩, by rw [← k2]; exact reV_ok hv⟩
  · by_cases hb : b < h.next
    · rw [low b hb] at hm; exact hr.zero b rb sh sz hm
    · unfold cutM at hm
      rw [if_neg hb] at hm
      split at hm
      · exact st.hr.zero _ rb sh sz hm
      · simp at hm
  · rw [hn] at hb
    have : ks[b - h.next]? = none := by rw [List.getElem?_eq_none_iff]; omega
    unfold cutM; rw [if_neg (by omega), this]
  · by_cases hb : b < h.next
    · rw [lowB b hb] at hx
      rw [low b hb]
      by_cases hd : x = .dead
      · subst hd; exact BR.dead _ _ _
      · exact BR.heap (fun r sh sz e => same r (old b x r sh sz hb hx hd e)) ((hr.blk b x hx).mono ext)
    · rcases hi b x (by omega) hx with e | ⟨k, p, s, t, m, e1, e2, e3, rfl, e5, e6, e7, e8⟩
      · rw [e]; trivial
      · rw [e3]
        have hbr := st.hr.blk k _ e5
        cases hs : μ' k with
        | unborn => trivial
        | dead => rw [hs] at hbr; exact hbr.elim
        | live rb sh sz =>
          rw [hs] at hbr
          obtain ⟨⟨cc, fr, c1, c2, c3, c4⟩, hf⟩ := hbr
          refine ⟨⟨cc, fr, c1, c2, c3, fun i x' hi' hx' => ?_⟩, by rw [← e6]; exact hf⟩
          rw [fillT_get, shL_length, if_pos (by omega), Nat.sub_zero, shL_get, ← e8, reL_get] at hx'
          obtain ⟨q1, q2⟩ := loadN_ok e7
          cases hmi : m[i]? with
          | none => rw [hmi] at hx'; simp at hx'
          | some z =>
            rw [hmi] at hx'
            simp at hx'; subst hx'
            have := q2 i z hmi
            rw [Nat.zero_add] at this
            obtain ⟨v', a1, a2, a3⟩ := c4 i z (by rw [e6]; exact hi') this
            exact ⟨v', a1, reV_ok a2, a3⟩
  · by_cases hb : b < h.next
    · rw [lowB b hb] at hx
      rw [low b hb] at hm
      by_cases hb' : b' < h.next
      · rw [lowB b' hb'] at hx'
        rw [low b' hb'] at hm'
        exact hr.inj b b' x x' r sh sz sh' sz' hx hx' hd hd' hm hm'
      · rcases hi b' x' (by omega) hx' with e | ⟨k, p, s, t, m, e1, e2, e3, rfl, e5, _⟩
        · rw [e] at hm'; simp at hm'
        · rw [e3] at hm'
          have := born k _ r _ _ e5 (by simp) hm'
          have := old b x r sh sz hb hx hd hm
          omega
    · rcases hi b x (by omega) hx with e | ⟨k, p, s, t, m, e1, e2, e3, rfl, e5, _⟩
      · rw [e] at hm; simp at hm
      · rw [e3] at hm
        have hge := born k _ r _ _ e5 (by simp) hm
        by_cases hb' : b' < h.next
        · rw [lowB b' hb'] at hx'
          rw [low b' hb'] at hm'
          have := old b' x' r sh' sz' hb' hx' hd' hm'
          omega
        · rcases hi b' x' (by omega) hx' with e' | ⟨k', p', s', t', m', f1, f2, f3, rfl, f5, _⟩
          · rw [e'] at hm'; simp at hm'
          · rw [f3] at hm'
            have hkk := st.hr.inj k k' _ _ r sh sz sh' sz' e5 f5 (by simp) (by simp) hm hm'
            have := (upFrom_ok k1 e1 f1).2 hkk
            omega
  · obtain ⟨b, x, sh, sz, hx, hd, hm⟩ := al
    by_cases hb : b < h.next
    · rw [lowB b hb] at hx
      rw [low b hb] at hm
      exact ⟨b, x, sh, sz, hx, hd, hm⟩
    · rcases hi b x (by omega) hx with e | ⟨k, p, s, t, m, e1, e2, e3, rfl, e5, _⟩
      · rw [e] at hm; simp at hm
      · rw [e3] at hm
        have := born k _ r _ _ e5 (by simp) hm
        omega

theorem strs_ok {μ μ' : Mu} : ∀ {l : List AVal} {m : List Value}, isStrs l = true → VL μ l m → VL μ' l m := by
  intro l
  induction l with
  | nil => intro m _ h; cases h; exact .nil
  | cons x l ih =>
    intro m hs h
    cases h with
    | cons _ y _ m hx hl =>
    cases x <;> first | exact absurd (show false = true from hs) (by simp) | skip
    refine .cons _ _ _ _ ?_ (ih hs hl)
    cases hx with
    | str s => exact .str s
/-- a call whose answer was found ahead -/
theorem memo_ok {P : Program} {E : Env} (hE : EnvOK P E) (hP : PlainOK P E) (hF : FnOK P E) {G : Keep} (hi : IntrOK P G E) {n : Nat} {f : FuncId} {args : List AVal} {ks : List Nat} {c : Cut} (hs : isStrs args = true) (hc : cutOk (fnA E n f args ⟨0, .leaf⟩) ks c = true)
    {μ : Mu} {h h' : Heap} {w : World} {args' : Array Value} {v : AVal} (hm : memoA h c = .ok v h') (hok : Ok G μ h w) (ha : VL μ args args'.toList) : CallRes P f args' μ h w v h' := by
  unfold memoA at hm
  rw [forceN_eq] at hm
  obtain ⟨rfl, rfl⟩ := R2.ok_inj hm
  have na : ∀ r, ¬ Alive (fun _ => Status.unborn) ⟨0, .leaf⟩ r := fun r ⟨b, x, sh, sz, hb, hd, hm⟩ => by simp at hm
  have hok0 : Ok G (fun _ => .unborn) ⟨0, .leaf⟩ w := ⟨⟨fun b rb sh sz hm => by simp at hm, fun _ _ => rfl, fun b x hb => trivial, fun b b' x x' r sh sz sh' sz' hb hb' hd hd' hm hm' => by simp at hm⟩, fun r o hr => ⟨(hok.keep r o hr).1, na r⟩⟩
  cases hev : fnA E n f args ⟨0, .leaf⟩ with
  | no => rw [hev] at hc; simp [cutOk] at hc
  | ok v0 h0 =>
    rw [hev] at hc
    rcases fnA_ok hE hP hF hi n f args ⟨0, .leaf⟩ v0 h0 hev _ w args' hok0 (strs_ok hs ha) with ⟨v', w', μ', h1, st, hv⟩ | ⟨h1, h2⟩
    · obtain ⟨s1, s2⟩ := cut_stp hok.hr st hv hc
      exact .inl ⟨v', w', _, h1, s1, s2⟩
    · refine .inr ⟨h1, Calls.mono h2 fun e w' he => ?_⟩
      obtain ⟨v', μ', rfl, st, hv⟩ := he
      obtain ⟨s1, s2⟩ := cut_stp hok.hr st hv hc
      exact ⟨v', _, rfl, s1, s2⟩
end Go.Ev
