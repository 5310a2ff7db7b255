import Derived.Test.YtpdichdneifdeaaGreatDoorEvE
import Derived.Scope
namespace Go.Ev
set_option linter.unusedVariables false
set_option linter.unusedSimpArgs false

section
variable {μ0 μ : Mu} {h0 h : Heap} {w0 w : World} (st : Stp μ0 h0 w0 μ h w)
include st
/-- something beside changes -/
theorem Stp.side (w' : World) (hold : ∀ r, Alive μ h r → w'.heap[r]? = w.heap[r]?) (h00 : ∀ r, r < w0.heap.size → w'.heap[r]? = w.heap[r]?) (hs : w.heap.size ≤ w'.heap.size) (ht : w'.tape = w.tape) (ho : w'.os = w.os) (hou : w'.output = w.output) : Stp μ0 h0 w0 μ h w' := by
  refine ⟨⟨st.hr.zero, st.hr.fresh, fun b x hb => ?_, st.hr.inj⟩, st.next, st.ext, st.unb, Nat.le_trans st.size hs, st.img, fun r hr na => ?_, ht.trans st.tape, ho.trans st.os, hou.trans st.out⟩
  · by_cases hd : x = .dead
    · subst hd; exact BR.dead _ _ _
    · exact (st.hr.blk b x hb).heap fun r sh sz hm => hold r ⟨b, x, sh, sz, hb, hd, hm⟩
  · rw [h00 r hr]; exact st.frame r hr na
/-- what was told of comes to be -/
theorem Stp.birth {id r sz : Nat} (hid : h0.next ≤ id) (hlt : id < h.next) (hu : μ id = .unborn) (w' : World) (hold : ∀ r, Alive μ h r → w'.heap[r]? = w.heap[r]?) (h00 : ∀ r, r < w0.heap.size → w'.heap[r]? = w.heap[r]?) (hs : w.heap.size ≤ w'.heap.size)
    (ht : w'.tape = w.tape) (ho : w'.os = w.os) (hou : w'.output = w.output) (hr : ¬ Alive μ h r) (hr0 : w0.heap.size ≤ r) (hB : ∀ x, h.blk id = some x → BR (bearM μ id (.live r 0 sz)) w' (.live r 0 sz) x) : Stp μ0 h0 w0 (bearM μ id (.live r 0 sz)) h w' := by
  have hext := Ext.bear (.live r 0 sz) hu
  have s1 := st.side w' hold h00 hs ht ho hou
  refine ⟨⟨fun b rb sh sz' hm => ?_, fun b hb => ?_, fun b x hb => ?_, fun b b' x x' r1 sh sz1 sh' sz' hb hb' hd hd' hm hm' => ?_⟩, st.next, st.ext.trans hext, fun b hb e => ?_, s1.size, fun r1 hr1 al => ?_, s1.frame, s1.tape, s1.os, s1.out⟩
  · by_cases e : b = id
    · subst e; rw [bear_same] at hm; simp at hm; exact hm.2.1.symm
    · rw [bear_ne μ _ e] at hm; exact st.hr.zero b rb sh sz' hm
  · rw [bear_ne μ _ (by omega)]; exact st.hr.fresh b hb
  · by_cases e : b = id
    · subst e; rw [bear_same]; exact hB x hb
    · rw [bear_ne μ _ e]; exact (s1.hr.blk b x hb).mono hext
  · by_cases e : b = id
    · subst e
      by_cases e' : b' = b
      · exact e'.symm
      · rw [bear_same] at hm; rw [bear_ne μ _ e'] at hm'
        simp at hm; rw [← hm.1] at hm'
        exact absurd ⟨b', x', sh', sz', hb', hd', hm'⟩ hr
    · rw [bear_ne μ _ e] at hm
      by_cases e' : b' = id
      · subst e'
        rw [bear_same] at hm'
        simp at hm'; rw [← hm'.1] at hm
        exact absurd ⟨b, x, sh, sz1, hb, hd, hm⟩ hr
      · rw [bear_ne μ _ e'] at hm'
        exact st.hr.inj b b' x x' r1 sh sz1 sh' sz' hb hb' hd hd' hm hm'
  · rw [bear_ne μ _ (by omega)]; exact st.unb b hb e
  · obtain ⟨b, x, sh, sz', hb, hd, hm⟩ := al
    by_cases e : b = id
    · subst e; rw [bear_same] at hm; simp at hm; omega
    · rw [bear_ne μ _ e] at hm; exact st.img r1 hr1 ⟨b, x, sh, sz', hb, hd, hm⟩
end
theorem Alive.bear {μ : Mu} {h : Heap} {id r r' sz : Nat} (hu : μ id = .unborn) (al : Alive (bearM μ id (.live r 0 sz)) h r') : r' = r ∨ Alive μ h r' := by
  obtain ⟨b, x, sh, sz', hb, hd, hm⟩ := al
  by_cases e : b = id
  · subst e; rw [bear_same] at hm; simp at hm; exact .inl hm.1.symm
  · rw [bear_ne μ _ e] at hm; exact .inr ⟨b, x, sh, sz', hb, hd, hm⟩

theorem lr_of {μ : Mu} {X : List AEnt} {ms : List MapEntry} (h : ER μ X ms) : ∀ {es : List AEnt}, (X.map strip).Perm es → LR μ es ms := by
  induction h with
  | nil => intro es hp; have : es = [] := by simpa using hp.length_eq.symm
           subst this; exact .nil
  | cons e f l m hk hv hb _ ih => intro es hp; exact .cons (strip e) f es (l.map strip) m (by simpa using hp.symm) hk hv (ih (List.Perm.refl _))
theorem unlike_of : ∀ {R : List Rec}, (R.Pairwise fun r r' => r.isI = true → r'.isI = true → Dif r.ent.key r'.ent.key) → Unlike ((R.filter Rec.isI).map (·.ent)) := by
  intro R
  induction R with
  | nil => intro _; trivial
  | cons r R ih =>
    intro h
    rw [List.pairwise_cons] at h
    rw [List.filter_cons]
    cases hi : r.isI with
    | false => simpa using ih h.2
    | true =>
      simp only [if_true, List.map_cons]
      refine ⟨fun e he => ?_, ih h.2⟩
      obtain ⟨r', hr', rfl⟩ := List.mem_map.1 he
      obtain ⟨a, b⟩ := List.mem_filter.1 hr'
      exact (h.1 r' a hi b).1

/-- something goes into the literal map -/
theorem insert_run {P : Program} {E : Env} (hE : EnvOK P E) (hP : PlainOK P E) {μ : Mu} {t : TypeId} {mt : MT} {k : AVal} {k' x' : Value} {X : List AEnt} {arr : Array MapEntry} {rr cl : Nat} {w : World} (hmt : mapO E t = some mt) (hs : mt.str = true) (hk : isStrA k = true)
    (hkv : V μ k k') (her : ER μ X arr.toList) (hw : w.heap[rr]? = some (.map arr cl)) (hmiss : ∀ e ∈ X, eqD .string k e.key = some false) :
    (Instr.mapUpdate t (.map (some rr)) k' x').run P w = .ok () { w with heap := w.heap.setIfInBounds rr (.map (arr.push { key := k', val := x', born := cl }) (cl + 1)) } := by
  obtain ⟨kt, e, ks, i, z, hd, hf, hi, hz, rfl⟩ := mapO_eq hmt
  have hu := und_ok hE hd (by simp)
  have hkt : und E kt = .string := by
    simp only [isStr] at hs
    split at hs
    · assumption
    · simp at hs
  have heq : ∀ y, eqTA E kt k y = eqD .string k y := fun y => eqTA_plain hkt (.inl rfl) k y
  have hko : keyOk (eqTA E kt) k = true := by
    unfold keyOk
    rw [heq]
    cases k <;> simp [isStrA] at hk
    simp [eqD]
  have chk := fun em => keyOk_ok hE hf hkv hko em w
  have hfe : findE (eqTA E kt) k X = .miss := by
    have h1 := findE_miss_all hmiss
    have : ∀ Y : List AEnt, findE (eqTA E kt) k Y = findE (eqD .string) k Y := by
      intro Y
      induction Y with
      | nil => rfl
      | cons e Y ih => rw [findE_cons, findE_cons, heq, ih]
    rw [this]; exact h1
  have asks := findAsking_ok hE hP (kt := kt) hkv X arr.toList 0 her w
  have fk := findKey_ok hE hP hf hkv her w (by rw [hfe]; simp)
  rw [asks.1 hfe] at fk
  simp only [Instr.mapUpdate, Sem.run_bind, run_underlying hu, run_map hw, Result.andThen_ok, chk, fk, run_setMap _ hw]
end Go.Ev
namespace Go.Ev
set_option linter.unusedVariables false
set_option linter.unusedSimpArgs false

def Sim.run (s : Sim) (i : Nat) (μ : Mu) (a : Act) (w : World) : Sim := { s with ls := s.ls.setIfInBounds i true, μ := μ, a := a, w := w }
theorem dn_set {ls : Array Bool} {i : Nat} (h : i < ls.size) (j : Nat) : (ls.setIfInBounds i true).getD j false = (ls.getD j false || j == i) := by
  by_cases e : j = i
  · subst e; simp [h]
  · rw [getD_set_ne false (Ne.symm e)]; simp [e]

section
variable {P : Program} {E : Env} (hE : EnvOK P E) (hP : PlainOK P E) {B : Base} (f : PF E B.l) (hN : ∀ o ∈ B.l, ∀ d, o.dst = some d → d < B.N)

section
variable {s : Sim} (iv : Inv E B s) {R1 R2 : List Rec} {r : Rec} (hR : s.R = R1 ++ r :: R2) (hr : s.dn r.d.ix = false) (anc : ∀ x, ahead (masks B.l) r.d.ix x = true → s.dn x = true)
include f iv hR hr anc
omit f hr anc in
theorem Inv.rec_plan : r.d ∈ Go.Ev.plan E B.l := by rw [← iv.plan, hR]; simp
omit hr anc in
theorem Inv.rec_op : B.ops[r.d.ix]? = some r.d.o := by rw [← Array.getElem?_toList]; exact (f.cls (iv.rec_plan hR)).1
omit hr anc in
theorem Inv.ix_lt : r.d.ix < s.ls.size := by
  rw [iv.size]
  have := iv.rec_op f hR
  exact (Array.getElem?_eq_some_iff.1 this).1
theorem Inv.look {t : Nat} (ht : t ∈ looks B.l r.d.o) {x : AVal} (hx : r.tm.get t = some x) : V s.μ x (s.a.tmps.getD t undef) := by
  have hp : (R1 ++ r :: R2).map (·.d) ++ s.L = Go.Ev.plan E B.l := by rw [← hR]; exact iv.plan
  have h1 := look_ok f hp iv.down hr anc ht B.tm
  rw [← iv.tmr R1 r R2 hR, ← hR] at h1
  exact iv.tmok t x (by rw [h1]; exact hx)
theorem Inv.opn {x : Operand} (hx : x ∈ r.d.o.op.operands) : V s.μ (opnd x r.tm) (s.a.eval x) := by
  cases x with
  | tmp t =>
    show V s.μ (Option.rec (motive := fun _ => AVal) .bad (fun v => v) (r.tm.get t)) (s.a.tmps.getD t undef)
    cases e : r.tm.get t with
    | none => exact .bad _
    | some v => exact iv.look f hR hr anc (List.mem_append_left _ (List.mem_filterMap.2 ⟨.tmp t, by simpa using hx, rfl⟩)) e
  | const v => exact toA_ok _ v
  | global g => exact .bad _
  | func g => exact .func g [] #[] .nil
theorem Inv.guard {b : Bool} (hg : gdO B.l r.d.o r.tm = some b) : Region.wanted r.d.o (yielded B.ops s.a.tmps) = b := by
  refine guard_ok (μ := s.μ) (ops := B.ops) (fun g o' t h1 h2 h3 x hx => ?_) hg
  refine iv.look f hR hr anc (List.mem_append_right _ ?_) hx
  rw [h1]
  have : B.l[g.1]? = some o' := by rw [Array.getElem?_toList]; exact h2
  simp [this, h3]

include hN
/-- what was planned was done -/
theorem Inv.ran {μ' : Mu} {v' : Value} {w' : World} (hv : V μ' r.v v') (he : Ext s.μ μ') (st : Stp B.μ B.h B.w μ' s.K w')
    (hun : ∀ r' ∈ s.R, r'.d.ix ≠ r.d.ix → ∀ i, r'.id = some i → s.μ i = .unborn → μ' i = .unborn)
    (hc : ∀ m t q, LitD B.l m t q → sealer B.l = some (q, t) → (s.dn m || m == r.d.ix) = true → (s.dn q || q == r.d.ix) = false → Conc B (s.run r.d.ix μ' (s.a.put r.d.o.dst v') w') t) :
    Inv E B (s.run r.d.ix μ' (s.a.put r.d.o.dst v') w') := by
  have hlt := iv.ix_lt f hR
  have hdn : ∀ j, (s.run r.d.ix μ' (s.a.put r.d.o.dst v') w').dn j = (s.dn j || j == r.d.ix) := fun j => dn_set hlt j
  have hp : (R1 ++ r :: R2).map (·.d) ++ s.L = Go.Ev.plan E B.l := by rw [← hR]; exact iv.plan
  have hmem : r.d.o ∈ B.l := List.mem_of_getElem? (f.cls (iv.rec_plan hR)).1
  refine ⟨iv.plan, iv.tmR, iv.tmr, by simpa [Sim.run] using iv.size, ?_, ?_, ?_, ?_, iv.idlt, iv.idne, ?_, st, ?_, iv.sized.put _ _, by show (s.a.put r.d.o.dst v').defers = _; rw [put_defers]; exact iv.defs, iv.ents, iv.born, iv.dif, ?_⟩
  · intro i hi
    rw [hdn, Bool.or_eq_true, beq_iff_eq] at hi
    rcases hi with hi | rfl
    · exact iv.sub i hi
    · exact ⟨r, by show r ∈ s.R; rw [hR]; simp, rfl⟩
  · intro i x hi hx
    rw [hdn, Bool.or_eq_true, beq_iff_eq] at hi
    rw [hdn, Bool.or_eq_true]
    rcases hi with hi | rfl
    · exact .inl (iv.down i x hi hx)
    · exact .inl (anc x hx)
  · intro r' hr' h
    rw [hdn, Bool.or_eq_true]
    exact .inl (iv.effs r' hr' h)
  · intro r' hr' h
    rw [hdn, Bool.or_eq_false_iff] at h
    exact iv.pend r' hr' h.1
  · intro r' hr' h i hi
    rw [hdn, Bool.or_eq_false_iff, beq_eq_false_iff_ne] at h
    exact hun r' hr' h.2 i hi (iv.unb r' hr' h.1 i hi)
  · intro t x hx
    have h1 := put_ok' f hp iv.down hr (dn' := (s.run r.d.ix μ' (s.a.put r.d.o.dst v') w').dn) hdn t B.tm
    rw [← hR] at h1
    have hx' : (putR (s.R.filter fun r_1 => (s.run r.d.ix μ' (s.a.put r.d.o.dst v') w').dn r_1.d.ix) B.tm).get t = some x := hx
    rw [h1] at hx'
    show V μ' x ((s.a.put r.d.o.dst v').tmps.getD t undef)
    by_cases ht : r.d.o.dst = some t
    · rw [if_pos ht] at hx'
      cases hx'
      rw [ht, getD_put (by rw [iv.sized]; exact hN _ hmem t ht), if_pos rfl]
      exact hv
    · rw [if_neg ht] at hx'
      have : (s.a.put r.d.o.dst v').tmps.getD t undef = s.a.tmps.getD t undef := by
        cases hd : r.d.o.dst with
        | none => rfl
        | some d =>
          rw [getD_put (by rw [iv.sized]; exact hN _ hmem d hd), if_neg (fun e => ht (by rw [hd, e]))]
      rw [this]
      exact (iv.tmok t x hx').mono he
  · intro m t q h1 h2 h3 h4
    exact hc m t q h1 h2 (by rw [← hdn]; exact h3) (by rw [← hdn]; exact h4)

omit hr anc in
/-- beside a literal map -/
theorem Inv.conc_keep {μ' : Mu} {v' : Value} {w' : World} (he : Ext s.μ μ') (hni : r.isI = false) (hnl : r.d.cl ≠ .lit) (hw : ∀ rr, rr < s.w.heap.size → ¬ Alive s.μ s.K rr → w'.heap[rr]? = s.w.heap[rr]? ∧ ¬ Alive μ' s.K rr) :
    ∀ m t q, LitD B.l m t q → sealer B.l = some (q, t) → (s.dn m || m == r.d.ix) = true → (s.dn q || q == r.d.ix) = false → Conc B (s.run r.d.ix μ' (s.a.put r.d.o.dst v') w') t := by
  intro m t q hl hs hm hq
  rw [Bool.or_eq_false_iff] at hq
  have hcl := (f.cls (iv.rec_plan hR))
  have hmr : m ≠ r.d.ix := by
    rintro rfl
    obtain ⟨o, ho, _, ⟨ty, hty⟩, hdst⟩ := hl.hm
    have hoo : o = r.d.o := by have := hcl.1; rw [ho] at this; simpa using this
    rcases f.lit with ⟨e1, e2, e3⟩ | ⟨m', t', s', e1, e2, e3⟩
    · rw [e2] at hs; simp at hs
    · rw [e2] at hs; simp at hs
      obtain ⟨rfl, rfl⟩ := hs
      have hm' := e3.wr _ _ hcl.1 (by rw [← hoo]; exact hdst)
      have h3 := hcl.2.2
      rw [e1, e2] at h3
      simp only [clsIn, onO_some] at h3
      rw [← hm'] at h3
      have hqi : Nat.beq s' r.d.ix = false := by
        cases hb : Nat.beq s' r.d.ix with
        | false => rfl
        | true => have := Nat.eq_of_beq_eq_true hb; rw [this] at hq; simp at hq
      rw [hqi, ifB_false, Nat.beq_refl, ifB_true] at h3
      exact hnl h3
  have hm1 : s.dn m = true := by
    rw [Bool.or_eq_true, beq_iff_eq] at hm
    exact hm.resolve_right hmr
  obtain ⟨rr, arr, cl, X, c1, c2, c3, c4, c5, c6⟩ := iv.conc m t q hl hs hm1 hq.1
  have hlt := heap_lt c3
  obtain ⟨d1, d2⟩ := hw rr hlt c4
  have hmem : r.d.o ∈ B.l := List.mem_of_getElem? hcl.1
  refine ⟨rr, arr, cl, X, ?_, c2, by show w'.heap[rr]? = _; rw [d1]; exact c3, d2, c5.mono he, ?_⟩
  · show (s.a.put r.d.o.dst v').tmps.getD t undef = _
    cases hd : r.d.o.dst with
    | none => exact c1
    | some d =>
      rw [getD_put (by rw [iv.sized]; exact hN _ hmem d hd), if_neg]
      · exact c1
      · rintro rfl
        exact hmr (hl.wr _ _ hcl.1 hd).symm
  · have : (s.run r.d.ix μ' (s.a.put r.d.o.dst v') w').R.filter (fun r_1 => r_1.isI && (s.run r.d.ix μ' (s.a.put r.d.o.dst v') w').dn r_1.d.ix) = s.R.filter fun r => r.isI && s.dn r.d.ix := by
      refine List.filter_congr fun r' hr' => ?_
      show (r'.isI && (s.ls.setIfInBounds r.d.ix true).getD r'.d.ix false) = _
      rw [dn_set (iv.ix_lt f hR)]
      by_cases e : r'.d.ix = r.d.ix
      · have : r'.d = r.d := f.good.ix_inj (by rw [← iv.plan]; exact List.mem_append_left _ (List.mem_map.2 ⟨r', hr', rfl⟩)) (iv.rec_plan hR) e
        have : r'.isI = false := by show isIns r'.d.o = false; rw [this]; exact hni
        rw [this]; rfl
      · have hb : (r'.d.ix == r.d.ix) = false := by simpa using e
        rw [hb, Bool.or_false]; rfl
    rw [this]; exact c6
end
end
end Go.Ev
namespace Go.Ev
set_option linter.unusedVariables false
set_option linter.unusedSimpArgs false

theorem stable_pends {E : Env} {B : Base} {tmF : Loc} {hF : Heap} {s : Sim} (st : Stable E B tmF hF s) : pendsOk B.call s.K s.ps = true := by
  obtain ⟨h, h2⟩ := st
  rcases h2 with h2 | ⟨d, L, h2, h3⟩
  · rw [h2] at h
    have : ifB (pendsOk B.call s.K s.ps) (RS.ok s.tm s.K) .no = .ok tmF hF := h
    exact (ifB_eq this (by simp)).1
  · rw [h2, runD_cons] at h
    unfold stepD at h
    rw [h3] at h
    exact (ifB_eq (show ifB (pendsOk B.call s.K s.ps) _ RS.no = .ok tmF hF from h) (by simp)).1

section
variable {P : Program} {E : Env} {G : Keep} (hE : EnvOK P E) (hP : PlainOK P E) {B : Base} (hc : CallOK P G B.call) (hi : IntrOK P G E) (hB : Ok G B.μ B.h B.w) (f : PF E B.l) (hN : ∀ o ∈ B.l, ∀ d, o.dst = some d → d < B.N)
variable {Q : Exit → Act → World → Prop} {tmF : Loc} {hF : Heap}
variable {s : Sim} (iv : Inv E B s) (st : Stable E B tmF hF s) {R1 R2 : List Rec} {r : Rec} (hR : s.R = R1 ++ r :: R2) (hr : s.dn r.d.ix = false) (anc : ∀ x, ahead (masks B.l) r.d.ix x = true → s.dn x = true)
include hE hP hc hi hB f hN iv st hR hr anc

/-- an operation that waited is done -/
theorem exec_pend (Kn : Act → World → Prop) (kn : ∀ μ' a' w', Inv E B (s.run r.d.ix μ' a' w') → Kn a' w') : wpOp P B.ops Q r.d.ix Kn s.a s.w := by
  have hop := iv.rec_op f hR
  have hrR : r ∈ s.R := by rw [hR]; simp
  have hpo := stable_pends st
  have LOOK := @Inv.opn E B f s iv R1 R2 r hR hr anc
  have GD := @Inv.guard E B f s iv R1 R2 r hR hr anc
  have hdp := iv.rec_plan hR
  obtain ⟨k1, k2, k3, k4⟩ := f.kind hdp
  have uni : ∀ r', r' ∈ s.R → r'.d.ix ≠ r.d.ix → (∀ i, r'.id = some i → r.id ≠ some i) := fun r' hr' hne i h1 h2 => by
    have hpw := iv.idne
    rw [hR] at hpw hr'
    rw [List.pairwise_append, List.pairwise_cons] at hpw
    rcases List.mem_append.1 hr' with h | h
    · exact hpw.2.2 r' h r (by simp) i h1 h2
    · rcases List.mem_cons.1 h with rfl | h
      · exact hne rfl
      · exact hpw.2.1.1 r' h i h2 h1
  have notI : ∀ c, r.d.cl = c → (c = .pure ∨ c = .read ∨ c = .new ∨ c = .eff) → r.isI = false := fun c h1 h2 => by
    have h3 := k1 c h1 h2
    cases h : r.isI with
    | false => rfl
    | true => obtain ⟨t, k, x, h4⟩ := isIns_cls (E := E) (o := r.d.o) h; rw [h3] at h4; rcases h2 with e | e | e | e <;> rw [e] at h4 <;> simp at h4
  -- nothing but the frame changes
  have STILL : ∀ (v' : Value), V s.μ r.v v' → r.isI = false → r.d.cl ≠ .lit → Kn (s.a.put r.d.o.dst v') s.w := fun v' hv h1 h2 =>
    kn s.μ _ _ (iv.ran f hN hR hr anc hv (Ext.refl _) iv.stp (fun _ _ _ _ _ h => h) (iv.conc_keep f hN hR (Ext.refl _) h1 h2 fun rr _ h => ⟨rfl, h⟩))
  have hun : ∀ (id : Nat), r.id = some id → ∀ (st' : Status), ∀ r' ∈ s.R, r'.d.ix ≠ r.d.ix → ∀ i, r'.id = some i → s.μ i = .unborn → bearM s.μ id st' i = .unborn := fun id hid st' r' hr' hne i hi' hu => by
    rw [bear_ne s.μ _ (fun e => uni r' hr' hne i hi' (by rw [hid, e]))]; exact hu
  unfold wpOp
  simp only [hop]
  have h := iv.pend r hrR hr
  cases h with
  | off hg hv hcc hid =>
    rw [GD hg, if_neg (by simp)]
    have h1 : r.isI = false := by rcases hcc with h | h | h <;> exact notI _ h (by simp)
    have h2 : r.d.cl ≠ .lit := by rcases hcc with h | h | h <;> rw [h] <;> simp
    exact STILL undef (by rw [hv]; exact undefA_ok _) h1 h2
  | pure hg hcc hx hid =>
    rw [GD hg, if_pos rfl]
    obtain ⟨h1, h2, hx⟩ := hx
    have hx' := pure_any (k1 _ hcc (by simp)) hx s.K
    refine .inl (op_ok hE hP hc hi (hB.step iv.stp) (fun x hx => LOOK hx) hx' _ Q fun v' w' μ' s1 hv => ?_)
    have hs2 : Stp B.μ B.h B.w μ' s.K w' := iv.stp.trans s1
    refine kn μ' _ _ (iv.ran f hN hR hr anc hv s1.ext hs2 (fun r' hr' hne i hi' hu => s1.unb i (iv.idlt r' hr' i hi').2 hu) (iv.conc_keep f hN hR s1.ext (notI _ hcc (by simp)) (by rw [hcc]; simp) fun rr hlt h => ⟨s1.frame rr hlt h, fun al => h (s1.img rr hlt al)⟩))
  | read hg hcc hx hid =>
    rw [GD hg, if_pos rfl]
    have h1 := pendsOk_mem hpo _ hx
    simp only [pendOk] at h1
    cases hop2 : opF E r.d.o.op B.call r.tm s.K with
    | no => rw [hop2] at h1; simp at h1
    | ok v h' =>
      rw [hop2] at h1
      have e1 : r.v = v := same_eq _ _ h1
      have e2 := read_same (k1 _ hcc (by simp)) hop2
      subst e2
      rw [← e1] at hop2
      refine .inl (op_ok hE hP hc hi (hB.step iv.stp) (fun x hx => LOOK hx) hop2 _ Q fun v' w' μ' s1 hv => ?_)
      have hs2 : Stp B.μ B.h B.w μ' s.K w' := iv.stp.trans s1
      refine kn μ' _ _ (iv.ran f hN hR hr anc hv s1.ext hs2 (fun r' hr' hne i hi' hu => s1.unb i (iv.idlt r' hr' i hi').2 hu) (iv.conc_keep f hN hR s1.ext (notI _ hcc (by simp)) (by rw [hcc]; simp) fun rr hlt h => ⟨s1.frame rr hlt h, fun al => h (s1.img rr hlt al)⟩))
  | new hg hcc hb h1 bl hx hbl hid p hp hpx hpk =>
    rw [GD hg, if_pos rfl]
    obtain ⟨bl', e1, _, late⟩ := new_late (P := P) (o := r.d.o) hE (k1 _ hcc (by simp)) hx
    have hbb : bl' = bl := by
      rw [hbl] at e1
      have e2 := Heap.blk_add hb hb.next bl
      rw [e1, Heap.blk_add] at e2
      simpa using e2
    subst hbb
    have hu := iv.unb r hrR hr _ hid
    obtain ⟨lo, hi2⟩ := iv.idlt r hrR _ hid
    have hsame := hpk B.call s.K (pendsOk_mem hpo p hp)
    obtain ⟨sm, q1, v', ob, sz, q2, q3, q4⟩ := late (w := s.w) (a := s.a) hu hsame (fun x hx => LOOK hx)
    refine .inl ?_
    unfold Oper.wp
    rw [q1]
    simp only [Sem.run_bind, q2, Result.andThen_ok, Sem.run_pure]
    rw [Oper.upon_value]
    have hpush : ∀ r', r' < s.w.heap.size → (s.w.heap.push ob)[r']? = s.w.heap[r']? := fun r' hlt => by rw [Array.getElem?_push]; simp [Nat.ne_of_lt hlt]
    have hna : ¬ Alive s.μ s.K s.w.heap.size := fun al => absurd (al.lt iv.stp.hr) (Nat.lt_irrefl _)
    have hs2 := iv.stp.birth (id := hb.next) (r := s.w.heap.size) (sz := sz) lo hi2 hu { s.w with heap := s.w.heap.push ob } (fun r' al => hpush r' (al.lt iv.stp.hr)) (fun r' hlt => hpush r' (Nat.lt_of_lt_of_le hlt iv.stp.size)) (by simp) rfl rfl rfl hna iv.stp.size q4
    refine kn _ _ _ (iv.ran f hN hR hr anc q3 (Ext.bear _ hu) hs2 (hun _ hid _) (iv.conc_keep f hN hR (Ext.bear _ hu) (notI _ hcc (by simp)) (by rw [hcc]; simp) fun rr hlt h => ⟨hpush rr hlt, fun al => ?_⟩))
    rcases al.bear hu with e | e
    · omega
    · exact h e
  | lit hcc hv hid =>
    obtain ⟨t, q, hl, hsl⟩ := k2 hcc
    obtain ⟨o, ho, hgn, ⟨ty, hty⟩, hdst⟩ := hl.hm
    have hoo : o = r.d.o := by have := (f.cls hdp).1; rw [ho] at this; simpa using this
    subst hoo
    have hg : gdO B.l r.d.o r.tm = some true := by unfold gdO; rw [hgn]; rfl
    rw [GD hg, if_pos rfl]
    refine .inl ?_
    unfold Oper.wp
    have hex : (execOp s.a.eval r.d.o).run P s.w = .ok (.value (.map (some s.w.heap.size))) { s.w with heap := s.w.heap.push (.map #[] 0) } := by
      simp only [execOp, hty, Option.map_none]; rfl
    rw [hex, Oper.upon_value]
    have hpush : ∀ r', r' < s.w.heap.size → (s.w.heap.push (Obj.map #[] 0))[r']? = s.w.heap[r']? := fun r' hlt => by rw [Array.getElem?_push]; simp [Nat.ne_of_lt hlt]
    have hs2 := iv.stp.side { s.w with heap := s.w.heap.push (.map #[] 0) } (fun r' al => hpush r' (al.lt iv.stp.hr)) (fun r' hlt => hpush r' (Nat.lt_of_lt_of_le hlt iv.stp.size)) (by simp) rfl rfl rfl
    refine kn _ _ _ (iv.ran f hN hR hr anc (v' := .map (some s.w.heap.size)) (by rw [hv]; exact .bad _) (Ext.refl _) hs2 (fun _ _ _ _ _ h => h) fun m t' q' hl' hs' hm' hq' => ?_)
    have htq : q' = q ∧ t' = t := by rw [hsl] at hs'; simpa using hs'.symm
    obtain ⟨rfl, rfl⟩ := htq
    have hmem : r.d.o ∈ B.l := List.mem_of_getElem? (f.cls hdp).1
    refine ⟨s.w.heap.size, #[], 0, [], ?_, iv.stp.size, (by show (s.w.heap.push (Obj.map #[] 0))[s.w.heap.size]? = _; simp), fun al => absurd (al.lt iv.stp.hr) (Nat.lt_irrefl _), .nil, ?_⟩
    · show (s.a.put r.d.o.dst _).tmps.getD t' undef = _
      rw [hdst, getD_put (by rw [iv.sized]; exact hN _ hmem t' hdst), if_pos rfl]
    · have : (s.run r.d.ix s.μ (s.a.put r.d.o.dst (.map (some s.w.heap.size))) { s.w with heap := s.w.heap.push (.map #[] 0) }).R.filter (fun r_1 => r_1.isI && (s.run r.d.ix s.μ (s.a.put r.d.o.dst (.map (some s.w.heap.size))) { s.w with heap := s.w.heap.push (.map #[] 0) }).dn r_1.d.ix) = [] := by
        rw [List.filter_eq_nil_iff]
        intro r' hr' hh
        rw [Bool.and_eq_true] at hh
        obtain ⟨h1, h2⟩ := hh
        have hrp' : r'.d ∈ Go.Ev.plan E B.l := by rw [← iv.plan]; exact List.mem_append_left _ (List.mem_map.2 ⟨r', hr', rfl⟩)
        have h3 := hl.ins _ _ (f.cls hrp').1 h1
        have h4 : (s.ls.setIfInBounds r.d.ix true).getD r'.d.ix false = true := h2
        rw [dn_set (iv.ix_lt f hR), Bool.or_eq_true, beq_iff_eq] at h4
        rcases h4 with h4 | h4
        · have := iv.down _ _ h4 h3.2.2.1
          rw [this] at hr; simp at hr
        · have e := f.good.ix_inj hrp' hdp h4
          have h1' : isIns r'.d.o = true := h1
          rw [e] at h1'
          unfold isIns at h1'; rw [hty] at h1'; simp at h1'
      rw [this]; exact List.Perm.refl _
  | shut u nx hcc hv hid hp =>
    obtain ⟨m, hl, hsl⟩ := k3 u hcc
    obtain ⟨o, ho, hgn, hty⟩ := hl.hs
    have hoo : o = r.d.o := by have := (f.cls hdp).1; rw [ho] at this; simpa using this
    subst hoo
    have hg : gdO B.l r.d.o r.tm = some true := by unfold gdO; rw [hgn]; rfl
    rw [GD hg, if_pos rfl]
    obtain ⟨rr, arr, cl, X, c1, c2, c3, c4, c5, c6⟩ := iv.conc m u r.d.ix hl hsl (anc _ hl.hsm) hr
    have hex : (execOp s.a.eval r.d.o).run P s.w = .ok (.value (.map (some rr))) s.w := by
      simp only [execOp, hty, Sem.run_pure]
      show Result.ok (Next.value (s.a.tmps.getD u undef)) s.w = _
      rw [c1]
    refine .inl ?_
    unfold Oper.wp
    rw [hex, Oper.upon_value]
    have hu := iv.unb r hrR hr _ hid
    obtain ⟨lo, hi2⟩ := iv.idlt r hrR _ hid
    have hpk := pendsOk_mem hpo _ hp
    simp only [pendOk, onLit] at hpk
    obtain ⟨bx, hbx, hpk⟩ := onO_eq hpk (by simp)
    cases bx <;> simp only [] at hpk <;> try (simp at hpk; done)
    rename_i fs
    obtain rfl := sameE_eq _ _ hpk
    -- all that goes into it has gone
    have hall : (s.R.filter fun r => r.isI && s.dn r.d.ix) = s.R.filter Rec.isI := by
      refine List.filter_congr fun r' hr' => ?_
      cases h1 : r'.isI with
      | false => rfl
      | true =>
        have hrp' : r'.d ∈ Go.Ev.plan E B.l := by rw [← iv.plan]; exact List.mem_append_left _ (List.mem_map.2 ⟨r', hr', rfl⟩)
        have h3 := hl.ins _ _ (f.cls hrp').1 h1
        rw [anc _ h3.2.2.2]; rfl
    rw [hall, ← iv.ents] at c6
    have hext := Ext.bear (.live rr 0 0) hu
    have hs2 := iv.stp.birth (id := nx) (r := rr) (sz := 0) lo hi2 hu s.w (fun _ _ => rfl) (fun _ _ => rfl) (Nat.le_refl _) rfl rfl rfl c4 c2 (fun x hx => by
      rw [hbx] at hx; cases hx
      refine ⟨⟨arr, cl, c3, lr_of (c5.mono hext) c6⟩, ?_⟩
      have := unlike_of iv.dif
      rw [← iv.ents] at this; exact this)
    refine kn _ _ _ (iv.ran f hN hR hr anc (v' := .map (some rr)) (by rw [hv]; exact .map nx rr 0 0 (bear_same _ _ _)) hext hs2 (hun _ hid _) fun m' t' q' hl' hs' hm' hq' => ?_)
    rw [hsl] at hs'
    simp at hs'
    rw [← hs'.1] at hq'
    simp at hq'
  | ins t k x mt hcc hmt hms hks he hv hid =>
    obtain ⟨hii, m, u, q, hl, hsl, hty⟩ := k4 t k x hcc
    obtain ⟨⟨ty', k', x', hty', hkn, hxn⟩, hgn, hanc, hsq⟩ := hl.ins _ _ (f.cls hdp).1 hii
    have hg : gdO B.l r.d.o r.tm = some true := by unfold gdO; rw [hgn]; rfl
    rw [GD hg, if_pos rfl]
    have hqd : s.dn q = false := by
      cases h1 : s.dn q with
      | false => rfl
      | true => have := iv.down _ _ h1 hsq; rw [this] at hr; simp at hr
    obtain ⟨rr, arr, cl, X, c1, c2, c3, c4, c5, c6⟩ := iv.conc m u q hl hsl (anc _ hanc) hqd
    have hkv : V s.μ (opnd k r.tm) (s.a.eval k) := LOOK (by rw [hty]; simp [Op.operands])
    have hxv : V s.μ (opnd x r.tm) (s.a.eval x) := LOOK (by rw [hty]; simp [Op.operands])
    have hmiss : ∀ e ∈ X, eqD .string (opnd k r.tm) e.key = some false := fun e hX => by
      have h1 : strip e ∈ (s.R.filter fun r => r.isI && s.dn r.d.ix).map (·.ent) := c6.subset (List.mem_map.2 ⟨e, hX, rfl⟩)
      obtain ⟨r', h2, h3⟩ := List.mem_map.1 h1
      obtain ⟨h4, h5⟩ := List.mem_filter.1 h2
      rw [Bool.and_eq_true] at h5
      have hek : r'.ent.key = e.key := by rw [h3]; rfl
      have hdf : Dif r'.ent.key r.ent.key ∨ Dif r.ent.key r'.ent.key := by
        have hpw := iv.dif
        rw [hR] at hpw h4
        rw [List.pairwise_append, List.pairwise_cons] at hpw
        rcases List.mem_append.1 h4 with h | h
        · exact .inl (hpw.2.2 r' h r (by simp) h5.1 hii)
        · rcases List.mem_cons.1 h with rfl | h
          · rw [hr] at h5; simp at h5
          · exact .inr (hpw.2.1.1 r' h hii h5.1)
      have hrk : r.ent.key = opnd k r.tm := by rw [he]
      rw [hrk, hek] at hdf
      rcases hdf with h | h
      · exact h.2
      · exact h.1
    have hrun := insert_run (P := P) hE hP (x' := s.a.eval x) hmt hms hks hkv c5 c3 hmiss
    have hex : (execOp s.a.eval r.d.o).run P s.w = .ok .skip { s.w with heap := s.w.heap.setIfInBounds rr (.map (arr.push { key := s.a.eval k, val := s.a.eval x, born := cl }) (cl + 1)) } := by
      have hmv : s.a.eval (.tmp u) = .map (some rr) := c1
      simp only [execOp, hty, hmv]
      simp [hrun]
    refine .inl ?_
    unfold Oper.wp
    rw [hex, Oper.upon_skip]
    have hne : ∀ r', r' ≠ rr → (s.w.heap.setIfInBounds rr (Obj.map (arr.push { key := s.a.eval k, val := s.a.eval x, born := cl }) (cl + 1)))[r']? = s.w.heap[r']? := fun r' h => Array.getElem?_setIfInBounds_ne (Ne.symm h)
    have hlt := heap_lt c3
    have hs2 := iv.stp.side { s.w with heap := s.w.heap.setIfInBounds rr (.map (arr.push { key := s.a.eval k, val := s.a.eval x, born := cl }) (cl + 1)) } (fun r' al => hne r' (fun e => c4 (e ▸ al))) (fun r' h => hne r' (by omega)) (by simp) rfl rfl rfl
    refine kn _ _ _ (iv.ran f hN hR hr anc (v' := undef) (by rw [hv]; exact undefA_ok _) (Ext.refl _) hs2 (fun _ _ _ _ _ h => h) fun m' t' q' hl' hs' hm' hq' => ?_)
    rw [hsl] at hs'
    simp at hs'
    obtain ⟨rfl, rfl⟩ := hs'
    have hmem : r.d.o ∈ B.l := List.mem_of_getElem? (f.cls hdp).1
    have hdu : r.d.o.dst ≠ some u := fun e => by
      have e2 := hl.wr _ _ (f.cls hdp).1 e
      obtain ⟨o, ho, _, ⟨ty, hty2⟩, _⟩ := hl.hm
      rw [← e2, (f.cls hdp).1] at ho
      simp at ho; subst ho
      rw [hty] at hty2; simp at hty2
    refine ⟨rr, arr.push { key := s.a.eval k, val := s.a.eval x, born := cl }, cl + 1, X ++ [⟨opnd k r.tm, opnd x r.tm, cl⟩], ?_, c2, ?_, c4, ?_, ?_⟩
    · show (s.a.put r.d.o.dst undef).tmps.getD u undef = _
      cases hd : r.d.o.dst with
      | none => exact c1
      | some d => rw [getD_put (by rw [iv.sized]; exact hN _ hmem d hd), if_neg (fun e => hdu (by rw [hd, e]))]; exact c1
    · show (s.w.heap.setIfInBounds rr _)[rr]? = _
      rw [Array.getElem?_setIfInBounds_self_of_lt hlt]
    · rw [Array.toList_push]; exact c5.append hkv hxv rfl
    · rw [List.map_append]
      show (X.map strip ++ [strip ⟨opnd k r.tm, opnd x r.tm, cl⟩]).Perm ((s.R.filter fun r_1 => r_1.isI && (s.ls.setIfInBounds r.d.ix true).getD r_1.d.ix false).map (·.ent))
      have hstrip : strip ⟨opnd k r.tm, opnd x r.tm, cl⟩ = r.ent := by rw [he]; rfl
      have hoff : ∀ r' ∈ s.R, r'.d.ix ≠ r.d.ix → (r'.isI && (s.ls.setIfInBounds r.d.ix true).getD r'.d.ix false) = (r'.isI && s.dn r'.d.ix) := fun r' _ hne => by
        rw [dn_set (iv.ix_lt f hR)]
        have hb : (r'.d.ix == r.d.ix) = false := by simpa using hne
        rw [hb, Bool.or_false]; rfl
      have hpl : R1.map (·.d) ++ r.d :: (R2.map (·.d) ++ s.L) = Go.Ev.plan E B.l := by rw [← iv.plan, hR]; simp
      have e1 : R1.filter (fun r_1 => r_1.isI && (s.ls.setIfInBounds r.d.ix true).getD r_1.d.ix false) = R1.filter fun r_1 => r_1.isI && s.dn r_1.d.ix :=
        List.filter_congr fun r' h => hoff r' (by rw [hR]; simp [h]) (f.prior hpl (List.mem_map.2 ⟨r', h, rfl⟩)).1
      have e2 : R2.filter (fun r_1 => r_1.isI && (s.ls.setIfInBounds r.d.ix true).getD r_1.d.ix false) = R2.filter fun r_1 => r_1.isI && s.dn r_1.d.ix :=
        List.filter_congr fun r' h => hoff r' (by rw [hR]; simp [h]) (f.after hpl (by simp; exact .inl ⟨r', h, rfl⟩)).1
      have e3 : (r.isI && (s.ls.setIfInBounds r.d.ix true).getD r.d.ix false) = true := by
        rw [dn_set (iv.ix_lt f hR)]
        have : r.isI = true := hii
        simp [this]
      have e4 : (r.isI && s.dn r.d.ix) = false := by rw [hr]; simp
      rw [hR, List.filter_append, List.filter_cons, if_pos e3, e1, e2, hstrip]
      rw [hR, List.filter_append, List.filter_cons, if_neg (by rw [e4]; simp)] at c6
      rw [List.map_append] at c6 ⊢
      rw [List.map_cons]
      have := c6.append_right [r.ent]
      refine this.trans ?_
      rw [List.append_assoc]
      refine List.Perm.append_left _ ?_
      exact List.perm_append_comm
end
end Go.Ev
namespace Go.Ev
set_option linter.unusedVariables false
set_option linter.unusedSimpArgs false

section
variable {P : Program} {E : Env} {G : Keep} (hE : EnvOK P E) (hP : PlainOK P E) {B : Base} (hc : CallOK P G B.call) (hi : IntrOK P G E) (hB : Ok G B.μ B.h B.w) (f : PF E B.l) (hN : ∀ o ∈ B.l, ∀ d, o.dst = some d → d < B.N)
variable {Q : Exit → Act → World → Prop} {tmF : Loc} {hF : Heap}

section
variable {s : Sim} (iv : Inv E B s) {d : DI} {L : List DI} (hL : s.L = d :: L) (hcl : d.cl = .eff) (anc : ∀ x, ahead (masks B.l) d.ix x = true → s.dn x = true)
include f hN iv hL hcl anc

/-- an effect was had -/
theorem Inv.had {v : AVal} {v' : Value} {μ' : Mu} {K' : Heap} {w' : World} (hv : V μ' v v') (st : Stp s.μ s.K s.w μ' K' w') :
    Inv E B ⟨s.R ++ [⟨d, v, s.tm, none, ⟨undefA, undefA, 0⟩⟩], L, s.es, keepP d.m s.ps, putO d.o.dst v s.tm, K', s.ls.setIfInBounds d.ix true, μ', s.a.put d.o.dst v', w'⟩ := by
  have hr := iv.undone f hL
  have hdp : d ∈ Go.Ev.plan E B.l := by rw [← iv.plan, hL]; simp
  have hk := (f.kind hdp).1 _ hcl (by simp)
  have hat := f.cls hdp
  have hlt : d.ix < s.ls.size := by
    rw [iv.size]
    have : B.ops[d.ix]? = some d.o := by rw [← Array.getElem?_toList]; exact hat.1
    exact (Array.getElem?_eq_some_iff.1 this).1
  generalize hrec : (⟨d, v, s.tm, none, ⟨undefA, undefA, 0⟩⟩ : Rec) = r
  have hrd : r.d = d := by rw [← hrec]
  have hrv : r.v = v := by rw [← hrec]
  have hrt : r.tm = s.tm := by rw [← hrec]
  have hrid : r.id = none := by rw [← hrec]
  have hri : r.isI = false := by
    cases h : r.isI with
    | false => rfl
    | true =>
      have h' : isIns d.o = true := by rw [← hrd]; exact h
      obtain ⟨t, k, x, h4⟩ := isIns_cls (E := E) h'
      rw [hk] at h4; simp at h4
  have hp : (s.R ++ r :: []).map (·.d) ++ L = Go.Ev.plan E B.l := by rw [← iv.plan, hL]; simp [hrd]
  have hdn : ∀ j, (s.ls.setIfInBounds d.ix true).getD j false = (s.dn j || j == r.d.ix) := fun j => by rw [hrd]; exact dn_set hlt j
  have hpl : s.R.map (·.d) ++ d :: L = Go.Ev.plan E B.l := by rw [← hL]; exact iv.plan
  have hmem : d.o ∈ B.l := List.mem_of_getElem? hat.1
  have hfil : (s.R ++ [r]).filter (fun r => s.dn r.d.ix) = s.R.filter (fun r => s.dn r.d.ix) := by
    rw [List.filter_append]; simp [hrd, hr]
  refine ⟨hp, ?_, ?_, by simpa using iv.size, ?_, ?_, ?_, ?_, ?_, ?_, ?_, iv.stp.trans st, ?_, iv.sized.put _ _, by show (s.a.put d.o.dst v').defers = _; rw [put_defers]; exact iv.defs, ?_, ?_, ?_, ?_⟩
  · show putO d.o.dst v s.tm = putR (s.R ++ [r]) B.tm
    rw [putR_append, ← iv.tmR]
    show _ = putO r.d.o.dst r.v s.tm
    rw [hrd, hrv]
  · intro R1 r' R2 h
    rcases get_of_split h with ⟨rfl, rfl, rfl⟩ | ⟨R2', h1, rfl⟩
    · rw [hrt]; exact iv.tmR
    · exact iv.tmr R1 r' R2' h1
  · intro i hi
    have hi' : (s.ls.setIfInBounds d.ix true).getD i false = true := hi
    rw [hdn, Bool.or_eq_true, beq_iff_eq] at hi'
    rcases hi' with hi | rfl
    · obtain ⟨r', a, b⟩ := iv.sub i hi; exact ⟨r', by simp [a], b⟩
    · exact ⟨r, by simp, rfl⟩
  · intro i x hi hx
    have hi' : (s.ls.setIfInBounds d.ix true).getD i false = true := hi
    show (s.ls.setIfInBounds d.ix true).getD x false = true
    rw [hdn, Bool.or_eq_true, beq_iff_eq] at hi'
    rw [hdn, Bool.or_eq_true]
    rcases hi' with hi | rfl
    · exact .inl (iv.down i x hi hx)
    · rw [hrd] at hx; exact .inl (anc x hx)
  · intro r' hr' h
    show (s.ls.setIfInBounds d.ix true).getD r'.d.ix false = true
    rw [hdn, Bool.or_eq_true, beq_iff_eq]
    rcases List.mem_append.1 hr' with h1 | h1
    · exact .inl (iv.effs r' h1 h)
    · simp at h1; subst h1; exact .inr rfl
  · intro r' hr' h
    have h' : (s.ls.setIfInBounds d.ix true).getD r'.d.ix false = false := h
    rw [hdn, Bool.or_eq_false_iff, beq_eq_false_iff_ne] at h'
    rcases List.mem_append.1 hr' with h1 | h1
    · refine (iv.pend r' h1 h'.1).mono fun p hp1 hp2 => keepP_mem hp1 ?_
      cases hb : tB d.m p.ix with
      | false => rfl
      | true =>
        rw [hp2, hat.2.1] at hb
        have := anc r'.d.ix hb
        rw [h'.1] at this; simp at this
    · simp at h1; subst h1; exact absurd rfl h'.2
  · intro r' hr' i hi'
    rcases List.mem_append.1 hr' with h1 | h1
    · obtain ⟨a, b⟩ := iv.idlt r' h1 i hi'; exact ⟨a, Nat.lt_of_lt_of_le b st.next⟩
    · simp at h1; subst h1; rw [hrid] at hi'; simp at hi'
  · show (s.R ++ [r]).Pairwise _
    rw [List.pairwise_append]
    refine ⟨iv.idne, List.pairwise_singleton _ _, fun r' hr' x hx i hi' hc => ?_⟩
    simp at hx; subst hx; rw [hrid] at hc; simp at hc
  · intro r' hr' h i hi'
    have h' : (s.ls.setIfInBounds d.ix true).getD r'.d.ix false = false := h
    rw [hdn, Bool.or_eq_false_iff] at h'
    rcases List.mem_append.1 hr' with h1 | h1
    · exact st.unb i (iv.idlt r' h1 i hi').2 (iv.unb r' h1 h'.1 i hi')
    · simp at h1; subst h1; rw [hrid] at hi'; simp at hi'
  · intro t x hx
    have h1 := put_ok' f hp iv.down (by rw [hrd]; exact hr) (dn' := fun j => (s.ls.setIfInBounds d.ix true).getD j false) hdn t B.tm
    have hx' : (putR ((s.R ++ [r]).filter fun r_1 => (s.ls.setIfInBounds d.ix true).getD r_1.d.ix false) B.tm).get t = some x := hx
    rw [h1, hfil, hrd, hrv] at hx'
    show V μ' x ((s.a.put d.o.dst v').tmps.getD t undef)
    by_cases ht : d.o.dst = some t
    · rw [if_pos ht] at hx'
      cases hx'
      rw [ht, getD_put (by rw [iv.sized]; exact hN _ hmem t ht), if_pos rfl]
      exact hv
    · rw [if_neg ht] at hx'
      have : (s.a.put d.o.dst v').tmps.getD t undef = s.a.tmps.getD t undef := by
        cases hd : d.o.dst with
        | none => rfl
        | some u => rw [getD_put (by rw [iv.sized]; exact hN _ hmem u hd), if_neg (fun e => ht (by rw [hd, e]))]
      rw [this]
      exact (iv.tmok t x hx').mono st.ext
  · show s.es = ((s.R ++ [r]).filter Rec.isI).map (·.ent)
    rw [List.filter_append]; simp [hri, iv.ents]
  · intro r' hr' h
    rcases List.mem_append.1 hr' with h1 | h1
    · exact iv.born r' h1 h
    · simp at h1; subst h1; rw [hri] at h; simp at h
  · show (s.R ++ [r]).Pairwise _
    rw [List.pairwise_append]
    refine ⟨iv.dif, List.pairwise_singleton _ _, fun r' hr' x hx h1 h2 => ?_⟩
    simp at hx; subst hx; rw [hri] at h2; simp at h2
  · intro m t q hl hs hm hq
    have hm' : (s.ls.setIfInBounds d.ix true).getD m false = true := hm
    have hq' : (s.ls.setIfInBounds d.ix true).getD q false = false := hq
    rw [hdn, hrd] at hm' hq'
    rw [Bool.or_eq_false_iff] at hq'
    have hmr : m ≠ d.ix := by
      rintro rfl
      obtain ⟨o, ho, _, ⟨ty, hty⟩, hdst⟩ := hl.hm
      have hoo : o = d.o := by have := hat.1; rw [ho] at this; simpa using this
      rw [hoo] at hty
      rw [hty] at hk; simp [clsOf] at hk
    have hm1 : s.dn m = true := by
      rw [Bool.or_eq_true, beq_iff_eq] at hm'
      exact hm'.resolve_right hmr
    obtain ⟨rr, arr, cl, X, c1, c2, c3, c4, c5, c6⟩ := iv.conc m t q hl hs hm1 hq'.1
    have hltr := heap_lt c3
    refine ⟨rr, arr, cl, X, ?_, c2, by show w'.heap[rr]? = _; rw [st.frame rr hltr c4]; exact c3, fun al => c4 (st.img rr hltr al), c5.mono st.ext, ?_⟩
    · show (s.a.put d.o.dst v').tmps.getD t undef = _
      cases hd : d.o.dst with
      | none => exact c1
      | some u =>
        rw [getD_put (by rw [iv.sized]; exact hN _ hmem u hd), if_neg]
        · exact c1
        · rintro rfl
          exact hmr (hl.wr _ _ hat.1 hd).symm
    · show (X.map strip).Perm (((s.R ++ [r]).filter fun r_1 => r_1.isI && (s.ls.setIfInBounds d.ix true).getD r_1.d.ix false).map (·.ent))
      have e : (s.R ++ [r]).filter (fun r_1 => r_1.isI && (s.ls.setIfInBounds d.ix true).getD r_1.d.ix false) = s.R.filter fun r => r.isI && s.dn r.d.ix := by
        rw [List.filter_append, List.filter_cons, if_neg (by rw [hri]; simp), List.filter_nil, List.append_nil]
        refine List.filter_congr fun r' hr' => ?_
        have hne := (f.prior hpl (List.mem_map.2 ⟨r', hr', rfl⟩)).1
        rw [hdn, hrd]
        have hb : (r'.d.ix == d.ix) = false := by simpa using hne
        rw [hb, Bool.or_false]
      rw [e]; exact c6

include hE hP hc hi hB
theorem exec_eff (st : Stable E B tmF hF s) (Kn : Act → World → Prop) (kn : ∀ s', Inv E B s' → Stable E B tmF hF s' → s'.ls = s.ls.setIfInBounds d.ix true → Kn s'.a s'.w) : wpOp P B.ops Q d.ix Kn s.a s.w := by
  have hr := iv.undone f hL
  have hdp : d ∈ Go.Ev.plan E B.l := by rw [← iv.plan, hL]; simp
  have hat := f.cls hdp
  have hop : B.ops[d.ix]? = some d.o := by rw [← Array.getElem?_toList]; exact hat.1
  have hrun := st.1
  rw [hL, runD_cons] at hrun
  unfold stepD at hrun
  rw [hcl] at hrun
  obtain ⟨_, hrun⟩ := ifB_eq (show ifB (pendsOk B.call s.K s.ps) _ RS.no = .ok tmF hF from hrun) (by simp)
  obtain ⟨b, hb, hrun⟩ := onO_RS hrun
  -- what is looked at
  have LOOK : ∀ t, t ∈ looks B.l d.o → ∀ x, s.tm.get t = some x → V s.μ x (s.a.tmps.getD t undef) := fun t ht x hx => by
    have hp : (s.R ++ (⟨d, .bad, s.tm, none, ⟨undefA, undefA, 0⟩⟩ : Rec) :: []).map (·.d) ++ L = Go.Ev.plan E B.l := by rw [← iv.plan, hL]; simp
    have h1 := look_ok f hp iv.down hr anc ht B.tm
    rw [← iv.tmR, List.filter_append, List.filter_cons, if_neg (by rw [hr]; simp), List.filter_nil, List.append_nil] at h1
    exact iv.tmok t x (by rw [h1]; exact hx)
  have OPN : ∀ x ∈ d.o.op.operands, V s.μ (opnd x s.tm) (s.a.eval x) := fun x hx => by
    cases x with
    | tmp t =>
      show V s.μ (Option.rec (motive := fun _ => AVal) .bad (fun v => v) (s.tm.get t)) (s.a.tmps.getD t undef)
      cases e : s.tm.get t with
      | none => exact .bad _
      | some v => exact LOOK t (List.mem_append_left _ (List.mem_filterMap.2 ⟨.tmp t, by simpa using hx, rfl⟩)) v e
    | const v => exact toA_ok _ v
    | global g => exact .bad _
    | func g => exact .func g [] #[] .nil
  have GD : Region.wanted d.o (yielded B.ops s.a.tmps) = b := guard_ok (μ := s.μ) (ops := B.ops) (fun g o' t h1 h2 h3 x hx => by
    refine LOOK t (List.mem_append_right _ ?_) x hx
    rw [h1]
    have : B.l[g.1]? = some o' := by rw [Array.getElem?_toList]; exact h2
    simp [this, h3]) hb
  have DONE : ∀ {v : AVal} {v' : Value} {μ' : Mu} {K' : Heap} {w' : World}, V μ' v v' → Stp s.μ s.K s.w μ' K' w' → runD E B.l L s.es (keepP d.m s.ps) B.call (putO d.o.dst v s.tm) K' = .ok tmF hF → Kn (s.a.put d.o.dst v') w' := fun {v v' μ' K' w'} hv st' hrun' => by
    have iv' := iv.had f hN hL hcl anc hv st'
    obtain ⟨s2, iv2, st2, e1, e2, e3⟩ := advance hE f _ _ rfl iv' hrun'
    have := kn s2 iv2 st2 (by rw [e1])
    rw [e2, e3] at this
    exact this
  unfold wpOp
  simp only [hop, GD]
  cases b with
  | false =>
    rw [if_neg (by simp)]
    rw [ifB_false] at hrun
    exact DONE (undefA_ok _) (Stp.refl iv.stp.hr) hrun
  | true =>
    rw [if_pos rfl]
    rw [ifB_true] at hrun
    cases hopf : opF E d.o.op B.call s.tm s.K with
    | no => rw [hopf] at hrun; simp at hrun
    | ok v K' =>
      rw [hopf] at hrun
      refine .inl (op_ok hE hP hc hi (hB.step iv.stp) OPN hopf _ Q fun v' w' μ' s1 hv => ?_)
      exact DONE hv s1 hrun
end

theorem first_undone {p : DI → Bool} : ∀ {l : List DI}, (∃ d ∈ l, p d = false) → ∃ A d B, l = A ++ d :: B ∧ (∀ d' ∈ A, p d' = true) ∧ p d = false := by
  intro l
  induction l with
  | nil => rintro ⟨d, h, _⟩; simp at h
  | cons x l ih =>
    rintro ⟨d, h, hd⟩
    cases hx : p x with
    | false => exact ⟨[], x, l, rfl, by simp, hx⟩
    | true =>
      rcases List.mem_cons.1 h with rfl | h
      · rw [hx] at hd; simp at hd
      · obtain ⟨A, d', B', e, a, b⟩ := ih ⟨d, h, hd⟩
        refine ⟨x :: A, d', B', by rw [e]; rfl, fun y hy => ?_, b⟩
        rcases List.mem_cons.1 hy with rfl | hy
        · exact hx
        · exact a y hy
include hE hP hc hi hB f hN
theorem run_all (hQ : ∀ a' w' μ', Stp B.μ B.h B.w μ' hF w' → TmOK μ' tmF a' → Sized B.N a' → a'.defers = B.a.defers → Q .normal a' w') :
    ∀ (fuel : Nat) (s : Sim), Inv E B s → Stable E B tmF hF s → ((Go.Ev.plan E B.l).filter fun d => !s.dn d.ix).length ≤ fuel → wpAny P .any B.ops Q fuel s.ls s.a s.w := by
  have END : ∀ (s : Sim), Inv E B s → Stable E B tmF hF s → Region.ready .any B.ops s.ls = [] → Q .normal s.a s.w := fun s iv st hre => by
    have hall : ∀ d ∈ Go.Ev.plan E B.l, s.dn d.ix = true := fun d hd => by
      cases h : s.dn d.ix with
      | true => rfl
      | false =>
        exfalso
        obtain ⟨A, d', B', e, a, b⟩ := first_undone (p := fun d => s.dn d.ix) ⟨d, hd, h⟩
        have hd' : d' ∈ Go.Ev.plan E B.l := by rw [e]; simp
        have hat := f.cls hd'
        have hop : B.ops[d'.ix]? = some d'.o := by rw [← Array.getElem?_toList]; exact hat.1
        have hlt : d'.ix < s.ls.size := by rw [iv.size]; exact (Array.getElem?_eq_some_iff.1 hop).1
        have : d'.ix ∈ Region.ready .any B.ops s.ls := by
          rw [mem_ready]
          refine ⟨?_, d'.o, hop, fun ed hed hbd => ?_⟩
          · have h2 : s.ls.getD d'.ix false = false := b
            simpa [hlt] using h2
          · have h3 : ahead (masks B.l) d'.ix ed.on = true := (f.mask _ _ hat.1 _).2 ⟨ed, hed, hbd, .inl rfl⟩
            obtain ⟨d'', h4, h5⟩ := (f.before e.symm).2.1 _ h3
            have := a d'' h4
            rw [← h5]; exact this
        rw [hre] at this; simp at this
    have hL : s.L = [] := by
      cases hL : s.L with
      | nil => rfl
      | cons d L =>
        have := iv.undone f hL
        rw [hall d (by rw [← iv.plan, hL]; simp)] at this; simp at this
    have h1 := st.1
    rw [hL] at h1
    have h2 : ifB (pendsOk B.call s.K s.ps) (RS.ok s.tm s.K) .no = .ok tmF hF := h1
    obtain ⟨_, h3⟩ := ifB_eq h2 (by simp)
    simp at h3
    obtain ⟨rfl, rfl⟩ := h3
    refine hQ s.a s.w s.μ iv.stp ?_ iv.sized iv.defs
    have h4 := iv.tmok
    have : s.R.filter (fun r => s.dn r.d.ix) = s.R := by
      rw [List.filter_eq_self]
      exact fun r hr => hall r.d (by rw [← iv.plan]; exact List.mem_append_left _ (List.mem_map.2 ⟨r, hr, rfl⟩))
    rw [this, ← iv.tmR] at h4
    exact h4
  have COUNT : ∀ (s : Sim) (i : Nat) (ls : Array Bool), Inv E B s → i ∈ Region.ready .any B.ops s.ls → (∀ j, ls.getD j false = (s.dn j || j == i)) → ((Go.Ev.plan E B.l).filter fun d => !ls.getD d.ix false).length < ((Go.Ev.plan E B.l).filter fun d => !s.dn d.ix).length := fun s i ls iv hi hls => by
    obtain ⟨h0, o, ho, _⟩ := mem_ready.1 hi
    have hlt := (Array.getElem?_eq_some_iff.1 ho).1
    obtain ⟨d, hd, hdi⟩ := f.good.all i (by simpa [Base.l] using hlt)
    have e : (Go.Ev.plan E B.l).filter (fun d => !ls.getD d.ix false) = ((Go.Ev.plan E B.l).filter fun d => !s.dn d.ix).filter fun d => !(d.ix == i) := by
      rw [List.filter_filter]
      refine List.filter_congr fun d' _ => ?_
      rw [hls]; cases s.dn d'.ix <;> cases (d'.ix == i) <;> rfl
    rw [e, List.length_filter_lt_length_iff_exists]
    refine ⟨d, List.mem_filter.2 ⟨hd, ?_⟩, by simp [hdi]⟩
    have hs : i < s.ls.size := by rw [iv.size]; exact hlt
    have h2 : s.ls.getD i false = false := by simpa [hs] using h0
    rw [hdi]; show (!(s.ls.getD i false)) = true
    rw [h2]; rfl
  have NEXT : ∀ (s : Sim) (i : Nat), Inv E B s → Stable E B tmF hF s → i ∈ Region.ready .any B.ops s.ls → ∀ (Kn : Act → World → Prop), (∀ s', Inv E B s' → Stable E B tmF hF s' → s'.ls = s.ls.setIfInBounds i true → Kn s'.a s'.w) → wpOp P B.ops Q i Kn s.a s.w := fun s i iv st hre Kn kn => by
    obtain ⟨h0, o, ho, hall⟩ := mem_ready.1 hre
    have hlt := (Array.getElem?_eq_some_iff.1 ho).1
    have hs : i < s.ls.size := by rw [iv.size]; exact hlt
    have hun : s.dn i = false := by
      have : s.ls.getD i false = false := by simpa [hs] using h0
      exact this
    have ho' : B.l[i]? = some o := by rw [Array.getElem?_toList]; exact ho
    have anc : ∀ x, ahead (masks B.l) i x = true → s.dn x = true := fun x hx => by
      obtain ⟨e, he, hb, h1⟩ := (f.mask i o ho' x).1 hx
      have h2 := hall e he hb
      rcases h1 with rfl | h1
      · exact h2
      · exact iv.down _ _ h2 h1
    obtain ⟨d, hd, rfl⟩ := f.good.all i (by simpa [Base.l] using hlt)
    have hd' := hd
    rw [← iv.plan] at hd'
    rcases List.mem_append.1 hd' with h1 | h1
    · obtain ⟨r, hr, rfl⟩ := List.mem_map.1 h1
      obtain ⟨R1, R2, hR⟩ := List.append_of_mem hr
      exact exec_pend hE hP hc hi hB f hN iv st hR hun anc Kn fun μ' a' w' iv' => kn _ iv' ⟨st.1, st.2⟩ rfl
    · rcases st.2 with h2 | ⟨d0, L, h2, h3⟩
      · rw [h2] at h1; simp at h1
      · rw [h2] at h1
        rcases List.mem_cons.1 h1 with rfl | h1
        · exact exec_eff hE hP hc hi hB f hN iv h2 h3 anc st Kn kn
        · exfalso
          obtain ⟨L1, L2, rfl⟩ := List.append_of_mem h1
          have h4 := (f.before (A := s.R.map (·.d) ++ d0 :: L1) (d := d) (B := L2) (by rw [← iv.plan, h2]; simp)).2.2 d0 (by simp) (by rw [h3]; rfl)
          have h5 := anc _ h4
          rw [iv.undone f h2] at h5; simp at h5
  intro fuel
  induction fuel with
  | zero =>
    intro s iv st hle
    have hre : Region.ready .any B.ops s.ls = [] := by
      cases h : Region.ready .any B.ops s.ls with
      | nil => rfl
      | cons i l =>
        have hi : i ∈ Region.ready .any B.ops s.ls := by rw [h]; simp
        obtain ⟨h0, o, ho, _⟩ := mem_ready.1 hi
        have := COUNT s i (s.ls.setIfInBounds i true) iv hi fun j => dn_set (by rw [iv.size]; exact (Array.getElem?_eq_some_iff.1 ho).1) j
        omega
    exact ⟨hre, END s iv st hre⟩
  | succ fuel ih =>
    intro s iv st hle
    refine ⟨END s iv st, fun i hi => NEXT s i iv st hi _ fun s' iv' st' e => ?_⟩
    have h0 := ih s' iv' st' (by
      obtain ⟨h0, o, ho, _⟩ := mem_ready.1 hi
      have := COUNT s i s'.ls iv hi fun j => by rw [e]; exact dn_set (by rw [iv.size]; exact (Array.getElem?_eq_some_iff.1 ho).1) j
      show ((Go.Ev.plan E B.l).filter fun d => !s'.ls.getD d.ix false).length ≤ fuel
      omega)
    rw [e] at h0
    exact h0
end
end Go.Ev
namespace Go.Ev
set_option linter.unusedVariables false
set_option linter.unusedSimpArgs false

/-! ### a region -/
theorem putO_same {d : Option Tmp} {v : AVal} {tm : Loc} {t : Nat} (h : d ≠ some t) : (putO d v tm).get t = tm.get t := by rw [putO_get, if_neg h]
theorem opsF_rel {E : Env} {ops : List Oper} {call : CallF} {Rl : Loc → Loc → Prop} (hrf : ∀ tm, Rl tm tm) : ∀ (l : List Oper) (tm : Loc) (h : Heap) (tm' : Loc) (h' : Heap), opsF E ops l call tm h = .ok tm' h' → (∀ o ∈ l, ∀ v tm tm', Rl (putO o.dst v tm) tm' → Rl tm tm') → Rl tm tm' := by
  intro l
  induction l with
  | nil => intro tm h tm' h' e _; have e' : RS.ok tm h = .ok tm' h' := e; cases e'; exact hrf _
  | cons o l ih =>
    intro tm h tm' h' e hd
    have hd0 := hd o (by simp)
    have hdl := fun x (hx : x ∈ l) => hd x (by simp [hx])
    have hf1 : stepF ops o (opF E o.op) (opsF E ops l) call tm h = .ok tm' h' := e
    have THEN : thenF (opF E o.op) o.dst (opsF E ops l) call tm h = .ok tm' h' → Rl tm tm' := fun hf2 => by
      cases hop : opF E o.op call tm h with
      | no => cases hd : o.dst <;> simp [thenF, hd, hop, onO] at hf2
      | ok v h1 =>
        have hf3 : opsF E ops l call (putO o.dst v tm) h1 = .ok tm' h' := by cases hd : o.dst <;> simpa [thenF, hd, hop, onO, putO] using hf2
        exact hd0 _ _ _ (ih _ _ _ _ hf3 hdl)
    unfold stepF at hf1
    cases hg : o.guard with
    | none => rw [hg] at hf1; exact THEN hf1
    | some g =>
      rw [hg] at hf1
      simp only [onO_some] at hf1
      cases hb : gdF ops g tm with
      | none => rw [hb] at hf1; simp at hf1
      | some b =>
        rw [hb] at hf1
        simp only [onO_some] at hf1
        cases b with
        | true => exact THEN hf1
        | false =>
          have hf4 : opsF E ops l call (putO o.dst undefA tm) h = .ok tm' h' := by cases hd : o.dst <;> simpa [skipF, hd, onO, putO] using hf1
          exact hd0 _ _ _ (ih _ _ _ _ hf4 hdl)
theorem runD_rel {E : Env} {ops : List Oper} {call : CallF} {Rl : Loc → Loc → Prop} (hrf : ∀ tm, Rl tm tm) : ∀ (l : List DI) (es : List AEnt) (ps : List Pend) (tm : Loc) (h : Heap) (tm' : Loc) (h' : Heap), runD E ops l es ps call tm h = .ok tm' h' → (∀ d ∈ l, ∀ v tm tm', Rl (putO d.o.dst v tm) tm' → Rl tm tm') → Rl tm tm' := by
  intro l
  induction l with
  | nil =>
    intro es ps tm h tm' h' e _
    have e' : ifB (pendsOk call h ps) (RS.ok tm h) .no = .ok tm' h' := e
    obtain ⟨_, e2⟩ := ifB_eq e' (by simp)
    cases e2; exact hrf _
  | cons d l ih =>
    intro es ps tm h tm' h' e hd
    have hd0 := hd d (by simp)
    have hdl := fun x (hx : x ∈ l) => hd x (by simp [hx])
    rw [runD_cons] at e
    unfold stepD at e
    have DO : doF ops d (opF E d.o.op) (runD E ops l) es ps call tm h = .ok tm' h' → Rl tm tm' := fun e => by
      unfold doF at e
      obtain ⟨b, hb, e⟩ := onO_RS e
      cases b with
      | false => rw [ifB_false] at e; exact hd0 _ _ _ (ih _ _ _ _ _ _ e hdl)
      | true =>
        rw [ifB_true] at e
        cases hop : opF E d.o.op call tm h with
        | no => rw [hop] at e; simp at e
        | ok v h1 =>
          rw [hop] at e
          obtain ⟨ps', _, e⟩ := onO_RS e
          exact hd0 _ _ _ (ih _ _ _ _ _ _ e hdl)
    cases hc : d.cl <;> rw [hc] at e
    case pure => exact DO e
    case read => exact DO e
    case new => exact DO e
    case eff =>
      obtain ⟨_, e⟩ := ifB_eq (show ifB (pendsOk call h ps) _ RS.no = .ok tm' h' from e) (by simp)
      obtain ⟨b, hb, e⟩ := onO_RS e
      cases b with
      | false => rw [ifB_false] at e; exact hd0 _ _ _ (ih _ _ _ _ _ _ e hdl)
      | true =>
        rw [ifB_true] at e
        cases hop : opF E d.o.op call tm h with
        | no => rw [hop] at e; simp at e
        | ok v h1 => rw [hop] at e; exact hd0 _ _ _ (ih _ _ _ _ _ _ e hdl)
    case lit => exact hd0 _ _ _ (ih _ _ _ _ _ _ (show runD E ops l es ps call (putO d.o.dst .bad tm) h = _ from e) hdl)
    case shut u =>
      simp only [sealF, forceN_eq] at e
      exact hd0 _ _ _ (ih _ _ _ _ _ _ e hdl)
    case ins ty k x =>
      simp only [insF] at e
      cases hm : mapO E ty with
      | none => rw [hm] at e; simp at e
      | some mt =>
        rw [hm, onO_some] at e
        obtain ⟨_, e⟩ := ifB_eq e (by simp)
        exact hd0 _ _ _ (ih _ _ _ _ _ _ e hdl)

theorem opsF_same {E : Env} {ops : List Oper} {call : CallF} {t : Nat} {l : List Oper} {tm : Loc} {h : Heap} {tm' : Loc} {h' : Heap} (e : opsF E ops l call tm h = .ok tm' h') : (tm.get t ≠ none → tm'.get t ≠ none) ∧ ((∀ o ∈ l, o.dst ≠ some t) → tm'.get t = tm.get t) :=
  ⟨opsF_rel (Rl := fun x y => x.get t ≠ none → y.get t ≠ none) (fun _ => id) _ _ _ _ _ e fun o _ v x y k hx => k (by rw [putO_get]; split <;> simp [hx]),
   fun hd => opsF_rel (Rl := fun x y => y.get t = x.get t) (fun _ => rfl) _ _ _ _ _ e fun o ho v x y k => by rw [k, putO_same (hd o ho)]⟩
theorem runD_same {E : Env} {ops : List Oper} {call : CallF} {t : Nat} {l : List DI} {es : List AEnt} {ps : List Pend} {tm : Loc} {h : Heap} {tm' : Loc} {h' : Heap} (e : runD E ops l es ps call tm h = .ok tm' h') : (tm.get t ≠ none → tm'.get t ≠ none) ∧ ((∀ d ∈ l, d.o.dst ≠ some t) → tm'.get t = tm.get t) :=
  ⟨runD_rel (Rl := fun x y => x.get t ≠ none → y.get t ≠ none) (fun _ => id) _ _ _ _ _ _ _ e fun o _ v x y k hx => k (by rw [putO_get]; split <;> simp [hx]),
   fun hd => runD_rel (Rl := fun x y => y.get t = x.get t) (fun _ => rfl) _ _ _ _ _ _ _ e fun o ho v x y k => by rw [k, putO_same (hd o ho)]⟩

/-- what the temporaries that live on stand for -/
def TmT (μ : Mu) (tm : Tm) (a : Act) : Prop := TmOK μ (.base tm) a
def Within (mask : Nat) (tm : Tm) : Prop := ∀ t, tm.get t ≠ none → tB mask t = true

theorem flush_cons (loc : Loc) (d : Nat) (l : List Nat) (t : Tm) : loc.flush (d :: l) t = loc.flush l (Option.rec (motive := fun _ => Trie AVal) t (fun v => t.set d v) (loc.get d)) := rfl
theorem flush_get (loc : Loc) : ∀ (l : List Nat) (t : Tm) (d : Nat), (loc.flush l t).get d = (if d ∈ l ∧ loc.get d ≠ none then loc.get d else t.get d) := by
  intro l
  induction l with
  | nil => intro t d; simp; rfl
  | cons e l ih =>
    intro t d
    rw [flush_cons, ih]
    cases he : loc.get e with
    | none =>
      by_cases h : d = e
      · subst h; simp [he]
      · simp [h]
    | some v =>
      by_cases h : d = e
      · subst h; simp [he, Trie.get_set]
      · simp [h, Trie.get_set]

section
variable {P : Program} {E : Env} {G : Keep} (hE : EnvOK P E) (hP : PlainOK P E) {call : CallF} (hc : CallOK P G call) (hi : IntrOK P G E)
include hE hP hc hi

theorem region_ok {id : Nat} {ops : Array Oper} {draw : Bool} {Q : Exit → Act → World → Prop} {N : Nat} (hN : ∀ o ∈ ops.toList, ∀ d, o.dst = some d → d < N) {μ : Mu} {h h' : Heap} {w : World} {tm tm' : Loc} {a : Act}
    (hr : Ok G μ h w) (ht : TmOK μ tm a) (hs : Sized N a) (hf : regF E ops.toList draw call tm h = .ok tm' h')
    (k : ∀ a' w' μ', Stp μ h w μ' h' w' → TmOK μ' tm' a' → Sized N a' → a'.defers = a.defers → (∀ t, (tm.get t ≠ none → tm'.get t ≠ none) ∧ ((∀ o ∈ ops.toList, o.dst ≠ some t) → tm'.get t = tm.get t)) → Q .normal a' w') :
    (Code.region id ops draw).wp P Q a w := by
  cases draw with
  | false =>
    have hf' : opsF E ops.toList ops.toList call tm h = .ok tm' h' := hf
    refine wp_region ?_
    have := opsF_ok hE hP hc hi (Q := Q) hN ops.toList [] (by simp) hr ht hs hf' fun a' w' μ' s1 t1 z1 d1 => k a' w' μ' s1 t1 z1 d1 fun t => opsF_same hf'
    simpa [List.range_eq_range'] using this
  | true =>
    have hf' : ifB (planOk E ops.toList) (runD E ops.toList (plan E ops.toList) [] []) (fun _ _ _ => .no) call tm h = .ok tm' h' := hf
    cases hp : planOk E ops.toList with
    | false => rw [hp] at hf'; simp at hf'
    | true =>
      rw [hp, ifB_true] at hf'
      have f := pf_ok hp
      have hwd : Ok G μ h { w with drawn := w.drawn + 1 } := hr.of_heap rfl
      refine wp_region_any hE.mixed ?_
      let B : Base := ⟨ops, call, N, tm, h, μ, a, { w with drawn := w.drawn + 1 }⟩
      let s0 : Sim := ⟨[], plan E ops.toList, [], [], tm, h, Array.replicate ops.size false, μ, a, { w with drawn := w.drawn + 1 }⟩
      have d0 : ∀ i, s0.dn i = false := fun i => by
        show (Array.replicate ops.size false).getD i false = false
        simp only [Array.getD_eq_getD_getElem?, Array.getElem?_replicate]
        split <;> rfl
      have iv : Inv E B s0 := by
        refine ⟨rfl, rfl, fun R1 r R2 h => by simp [s0] at h, by simp [s0, B], fun i h => by rw [d0] at h; simp at h, fun i x h => by rw [d0] at h; simp at h, fun r h => by simp [s0] at h, fun r h => by simp [s0] at h, fun r h => by simp [s0] at h, .nil, fun r h => by simp [s0] at h, Stp.refl hwd.hr, ht, hs, rfl, rfl, fun r h => by simp [s0] at h, .nil, fun m t q _ _ h => by rw [d0] at h; simp at h⟩
      obtain ⟨s1, iv1, st1, e1, e2, e3⟩ := advance (tmF := tm') (hF := h') hE (B := B) f _ s0 rfl iv hf'
      have hw : ∀ μ' w', Stp μ h { w with drawn := w.drawn + 1 } μ' h' w' → Stp μ h w μ' h' w' := fun μ' w' s => ⟨s.hr, s.next, s.ext, s.unb, s.size, s.img, s.frame, s.tape, s.os, s.out⟩
      have := run_all hE hP (B := B) hc hi hwd f hN (Q := Q) (tmF := tm') (hF := h') (fun a' w' μ' s t z d => k a' w' μ' (hw _ _ s) t z d fun u => ⟨(runD_same hf').1, fun hu => (runD_same hf').2 fun d hd => hu d.o (List.mem_of_getElem? (f.cls hd).1)⟩) ops.size s1 iv1 st1 (Nat.le_trans (List.length_filter_le _ _) (by rw [f.len]; simp [B, Base.l]))
      rw [e1, e2, e3] at this
      exact this
end
end Go.Ev
namespace Go.Ev
set_option linter.unusedVariables false
set_option linter.unusedSimpArgs false

def toExit (e : Ex) : Exit := match e with | .normal => .normal | .exit i => .exit i | .goto l => .goto l | .ret => .ret
/-- a state behind a piece of code -/
structure After (N mask : Nat) (μ : Mu) (h : Heap) (w : World) (a : Act) (tm' : Tm) (h' : Heap) (a' : Act) (w' : World) (μ' : Mu) : Prop where
  stp : Stp μ h w μ' h' w'
  tm : TmT μ' tm' a'
  within : Within mask tm'
  sized : Sized N a'
  defs : a'.defers = a.defers
theorem After.trans {N mask : Nat} {μ μ1 μ2 : Mu} {h h1 h2 : Heap} {w w1 w2 : World} {a a1 a2 : Act} {t1 t2 : Tm} (x : After N mask μ h w a t1 h1 a1 w1 μ1) (y : After N mask μ1 h1 w1 a1 t2 h2 a2 w2 μ2) : After N mask μ h w a t2 h2 a2 w2 μ2 :=
  ⟨x.stp.trans y.stp, y.tm, y.within, y.sized, y.defs.trans x.defs⟩
theorem After.refl {N mask : Nat} {μ : Mu} {h : Heap} {w : World} {a : Act} {t : Tm} (hr : HR μ h w) (ht : TmT μ t a) (hw : Within mask t) (hs : Sized N a) : After N mask μ h w a t h a w μ := ⟨Stp.refl hr, ht, hw, hs, rfl⟩
/-- a piece of code runs so -/
def RunOK (P : Program) (G : Keep) (call : CallF) (N mask : Nat) (c : Code) (s : S) : Prop :=
  ∀ n tm h e tm' h', s call n tm h = .ok e tm' h' → ∀ μ w a, Ok G μ h w → TmT μ tm a → Within mask tm → Sized N a →
    c.wp P (fun x a' w' => x = toExit e ∧ ∃ μ', After N mask μ h w a tm' h' a' w' μ') a w

theorem next_ok' {r : RC} {k : Tm → Heap → RC} {e : Ex} {tm : Tm} {h : Heap} (x : RC.next r k = .ok e tm h) : (∃ t1 h1, r = .ok .normal t1 h1 ∧ k t1 h1 = .ok e tm h) ∨ (e ≠ .normal ∧ r = .ok e tm h) := by
  cases r with
  | no => simp [RC.next] at x
  | ok e1 t1 h1 =>
    cases e1 with
    | normal => exact .inl ⟨t1, h1, rfl, x⟩
    | exit i => have x' : RC.ok (.exit i) t1 h1 = .ok e tm h := x; cases x'; exact .inr ⟨by simp, rfl⟩
    | goto i => have x' : RC.ok (.goto i) t1 h1 = .ok e tm h := x; cases x'; exact .inr ⟨by simp, rfl⟩
    | ret => have x' : RC.ok .ret t1 h1 = .ok e tm h := x; cases x'; exact .inr ⟨by simp, rfl⟩

section
variable {P : Program} {E : Env} {G : Keep} (hE : EnvOK P E) (hP : PlainOK P E) {call : CallF} (hc : CallOK P G call) (hi : IntrOK P G E) {N mask : Nat}

theorem seq_run {x y : Code} {s t : S} (hx : RunOK P G call N mask x s) (hy : RunOK P G call N mask y t) : RunOK P G call N mask (.seq x y) (seqS s t) := by
  intro n tm h e tm' h' hf μ w a hr ht hw hs
  refine wp_seq ?_
  rcases next_ok' (show RC.next (s call n tm h) (t call n) = .ok e tm' h' from hf) with ⟨t1, h1, e1, e2⟩ | ⟨hne, e1⟩
  · refine wp_mono (hx n tm h _ _ _ e1 μ w a hr ht hw hs) fun q a1 w1 hq => ?_
    obtain ⟨rfl, μ1, af⟩ := hq
    refine wp_mono (hy n t1 h1 _ _ _ e2 μ1 w1 a1 (hr.step af.stp) af.tm af.within af.sized) fun q a2 w2 hq => ?_
    obtain ⟨rfl, μ2, af2⟩ := hq
    exact ⟨rfl, μ2, af.trans af2⟩
  · refine wp_mono (hx n tm h _ _ _ e1 μ w a hr ht hw hs) fun q a1 w1 hq => ?_
    obtain ⟨rfl, μ1, af⟩ := hq
    cases e with
    | normal => exact absurd rfl hne
    | exit i => exact ⟨rfl, μ1, af⟩
    | goto i => exact ⟨rfl, μ1, af⟩
    | ret => exact ⟨rfl, μ1, af⟩
theorem cond_run {c : Operand} {x y : Code} {s t : S} (hx : RunOK P G call N mask x s) (hy : RunOK P G call N mask y t) : RunOK P G call N mask (.cond c x y) (condS c s t) := by
  intro n tm h e tm' h' hf μ w a hr ht hw hs
  have hv := opnd_ok ht c
  simp only [condS] at hf
  cases ho : opnd c (.base tm) <;> rw [ho] at hf hv <;> simp only [] at hf <;> try (simp at hf; done)
  rename_i b
  generalize hy' : a.eval c = v at hv
  cases hv
  refine wp_cond hy' ?_
  cases b with
  | true => exact hx n tm h e tm' h' hf μ w a hr ht hw hs
  | false => exact hy n tm h e tm' h' hf μ w a hr ht hw hs
theorem block_run {id : Nat} {x : Code} {s : S} (hx : RunOK P G call N mask x s) : RunOK P G call N mask (.block id x) (fun call n tm h => RC.leave id (s call n tm h)) := by
  intro n tm h e tm' h' hf μ w a hr ht hw hs
  refine wp_block ?_
  have hf' : RC.leave id (s call n tm h) = .ok e tm' h' := hf
  cases hsr : s call n tm h with
  | no => rw [hsr] at hf'; simp [RC.leave] at hf'
  | ok e1 t1 h1 =>
    rw [hsr] at hf'
    refine wp_mono (hx n tm h _ _ _ hsr μ w a hr ht hw hs) fun q a1 w1 hq => ?_
    obtain ⟨rfl, μ1, af⟩ := hq
    cases e1 with
    | normal => have x' : RC.ok .normal t1 h1 = .ok e tm' h' := hf'; cases x'; exact ⟨rfl, μ1, af⟩
    | goto i => have x' : RC.ok (.goto i) t1 h1 = .ok e tm' h' := hf'; cases x'; exact ⟨rfl, μ1, af⟩
    | ret => have x' : RC.ok .ret t1 h1 = .ok e tm' h' := hf'; cases x'; exact ⟨rfl, μ1, af⟩
    | exit i =>
      have x' : ifB (Nat.beq i id) (RC.ok .normal t1 h1) (.ok (.exit i) t1 h1) = .ok e tm' h' := hf'
      show if i = id then _ else _
      cases hb : Nat.beq i id with
      | true =>
        rw [hb, ifB_true] at x'; cases x'
        rw [if_pos (Nat.eq_of_beq_eq_true hb)]; exact ⟨rfl, μ1, af⟩
      | false =>
        rw [hb, ifB_false] at x'; cases x'
        rw [if_neg (Nat.ne_of_beq_eq_false hb)]; exact ⟨rfl, μ1, af⟩
theorem loop_run {x : Code} {s : S} (hx : RunOK P G call N mask x s) : RunOK P G call N mask (.loop x) (loopS s) := by
  intro n tm h e tm' h' hf μ w a hr ht hw hs b k cs
  have key : ∀ m tm h e tm' h', (Nat.rec (motive := fun _ => Tm → Heap → RC) (fun _ _ => .no) (fun _ ih tm h => RC.next (s call n tm h) ih) m tm h : RC) = .ok e tm' h' → ∀ μ w a, Ok G μ h w → TmT μ tm a → Within mask tm → Sized N a →
      ∃ e1 a1 w1, (e1 = toExit e ∧ ∃ μ', After N mask μ h w a tm' h' a1 w1 μ') ∧ Arrives P (lone (b.at a (.code x :: .inLoop x :: k)) cs w) b k cs e1 a1 w1 := by
    intro m
    induction m with
    | zero => intro tm h e tm' h' hf; simp at hf
    | succ m ih =>
      intro tm h e tm' h' hf μ w a hr ht hw hs
      rcases next_ok' hf with ⟨t1, h1, e1, e2⟩ | ⟨hne, e1⟩
      · obtain ⟨q, a1, w1, ⟨rfl, μ1, af⟩, harr⟩ := hx n tm h _ _ _ e1 μ w a hr ht hw hs b (.inLoop x :: k) cs
        obtain ⟨q2, a2, w2, ⟨rfl, μ2, af2⟩, harr2⟩ := ih t1 h1 e tm' h' e2 μ1 w1 a1 (hr.step af.stp) af.tm af.within af.sized
        exact ⟨_, a2, w2, ⟨rfl, μ2, af.trans af2⟩, .of_steps (Steps.trans harr (.one step_inLoop)) harr2⟩
      · obtain ⟨q, a1, w1, ⟨rfl, μ1, af⟩, harr⟩ := hx n tm h _ _ _ e1 μ w a hr ht hw hs b (.inLoop x :: k) cs
        refine ⟨_, a1, w1, ⟨rfl, μ1, af⟩, .pass (x := .inLoop x) rfl (fun _ _ => .inl ?_) harr⟩
        cases e <;> first | exact absurd rfl hne | simp [toExit]
  obtain ⟨e1, a1, w1, hq, harr⟩ := key n tm h e tm' h' hf μ w a hr ht hw hs
  exact ⟨e1, a1, w1, hq, .of_steps (.one step_loop) harr⟩

/-- what is told of labels -/
def LabOK (P : Program) (G : Keep) (call : CallF) (N mask : Nat) (c : Code) (lab : Nat → Option S) : Prop :=
  ∀ l, (lab l = none → findLabel c l = none) ∧ ∀ s, lab l = some s → ∃ rest, findLabel c l = some rest ∧ RunOK P G call N mask rest s
theorem scope_run {c : Code} {s : S} {lab : Nat → Option S} (hx : RunOK P G call N mask c s) (hl : LabOK P G call N mask c lab) : RunOK P G call N mask (.scope c) (scopeS s lab) := by
  intro n tm h e tm' h' hf μ w a hr ht hw hs b k cs
  have key : ∀ m (rest : Code) (s : S), RunOK P G call N mask rest s → ∀ tm h e tm' h', (Nat.rec (motive := fun _ => RC → RC) (fun _ => .no) (fun _ ih r => RC.jump r fun l tm h => onO (lab l) (.ok (.goto l) tm h) fun s => ih (s call n tm h)) m (s call n tm h) : RC) = .ok e tm' h' → ∀ μ w a, Ok G μ h w → TmT μ tm a → Within mask tm → Sized N a →
      ∃ e1 a1 w1, (e1 = toExit e ∧ ∃ μ', After N mask μ h w a tm' h' a1 w1 μ') ∧ Arrives P (lone (b.at a (.code rest :: .inScope c :: k)) cs w) b k cs e1 a1 w1 := by
    intro m
    induction m with
    | zero => intro rest s hrun tm h e tm' h' hf; simp at hf
    | succ m ih =>
      intro rest s hrun tm h e tm' h' hf μ w a hr ht hw hs
      cases hsr : s call n tm h with
      | no => rw [hsr] at hf; simp [RC.jump] at hf
      | ok e1 t1 h1 =>
        rw [hsr] at hf
        obtain ⟨q, a1, w1, ⟨rfl, μ1, af⟩, harr⟩ := hrun n tm h _ _ _ hsr μ w a hr ht hw hs b (.inScope c :: k) cs
        cases e1 with
        | normal =>
          have x' : RC.ok .normal t1 h1 = .ok e tm' h' := hf; cases x'
          exact ⟨.normal, a1, w1, ⟨rfl, μ1, af⟩, Steps.trans harr (.one step_inScope)⟩
        | exit i =>
          have x' : RC.ok (.exit i) t1 h1 = .ok e tm' h' := hf; cases x'
          exact ⟨.exit i, a1, w1, ⟨rfl, μ1, af⟩, fun k' hk => harr k' (by simp [exitTo, hk])⟩
        | ret =>
          have x' : RC.ok .ret t1 h1 = .ok e tm' h' := hf; cases x'
          exact ⟨.ret, a1, w1, ⟨rfl, μ1, af⟩, harr⟩
        | goto l =>
          have hf' : onO (lab l) (RC.ok (.goto l) t1 h1) (fun s => Nat.rec (motive := fun _ => RC → RC) (fun _ => .no) (fun _ ih r => RC.jump r fun l tm h => onO (lab l) (.ok (.goto l) tm h) fun s => ih (s call n tm h)) m (s call n t1 h1)) = .ok e tm' h' := hf
          cases hlab : lab l with
          | none =>
            rw [hlab, onO_none] at hf'; cases hf'
            have hn := (hl l).1 hlab
            exact ⟨.goto l, a1, w1, ⟨rfl, μ1, af⟩, fun k' hk => harr k' (by simp [gotoIn, hn, hk])⟩
          | some s1 =>
            rw [hlab, onO_some] at hf'
            obtain ⟨rest1, hfl, hrun1⟩ := (hl l).2 s1 hlab
            obtain ⟨q2, a2, w2, ⟨rfl, μ2, af2⟩, harr2⟩ := ih rest1 s1 hrun1 t1 h1 e tm' h' hf' μ1 w1 a1 (hr.step af.stp) af.tm af.within af.sized
            exact ⟨_, a2, w2, ⟨rfl, μ2, af.trans af2⟩, .of_steps (harr _ (by simp [gotoIn, hfl])) harr2⟩
  obtain ⟨e1, a1, w1, hq, harr⟩ := key n c s hx tm h e tm' h' hf μ w a hr ht hw hs
  exact ⟨e1, a1, w1, hq, .of_steps (.one step_scope) harr⟩

include hE hP hc hi
theorem region_run {id : Nat} {ops : Array Oper} {draw : Bool} (hN : dstsR N ops.toList = true) : RunOK P G call N mask (.region id ops draw) (regS (outsOf mask ops.toList) (regF E ops.toList draw)) := by
  intro n tm h e tm' h' hf μ w a hr ht hw hs
  have hN' : ∀ o ∈ ops.toList, ∀ d, o.dst = some d → d < N := fun o ho d hd => by
    have := List.all_eq_true.1 hN o ho
    rw [hd] at this
    exact ble_true.1 this
  have hf' : RS.rec (motive := fun _ => RC) .no (fun loc h => .ok .normal (loc.flush (outsOf mask ops.toList) tm) h) (regF E ops.toList draw call (.base tm) h) = .ok e tm' h' := hf
  cases hg : regF E ops.toList draw call (.base tm) h with
  | no => rw [hg] at hf'; simp at hf'
  | ok loc h1 =>
    rw [hg] at hf'
    cases hf'
    refine region_ok hE hP hc hi hN' hr ht hs hg fun a' w' μ' s1 t1 z1 d1 same => ⟨rfl, μ', s1, ?_, ?_, z1, d1⟩
    · intro t x hx
      have hx' : (loc.flush (outsOf mask ops.toList) tm).get t = some x := hx
      rw [flush_get] at hx'
      split at hx'
      · exact t1 t x hx'
      · rename_i hno
        refine t1 t x ?_
        have hin : tB mask t = true := hw t (by rw [hx']; simp)
        by_cases hd : ∃ o ∈ ops.toList, o.dst = some t
        · obtain ⟨o, ho, hod⟩ := hd
          have hmem : t ∈ outsOf mask ops.toList := by
            unfold outsOf
            rw [List.mem_filter]
            refine ⟨?_, hin⟩
            rw [List.mem_eraseDups]
            exact List.mem_filterMap.2 ⟨o, ho, hod⟩
          cases hl : loc.get t with
          | none =>
            exact absurd hl ((same t).1 (by show tm.get t ≠ none; rw [hx']; simp))
          | some v => exact absurd ⟨hmem, by rw [hl]; simp⟩ hno
        · rw [(same t).2 fun o ho hod => hd ⟨o, ho, hod⟩]; exact hx'
    · intro t ht'
      rw [flush_get] at ht'
      split at ht'
      · rename_i hy
        have := hy.1
        unfold outsOf at this
        exact (List.mem_filter.1 this).2
      · exact hw t ht'
end
end Go.Ev
namespace Go.Ev
set_option linter.unusedVariables false
set_option linter.unusedSimpArgs false

section
variable {P : Program} {E : Env} {G : Keep} (hE : EnvOK P E) (hP : PlainOK P E) {call : CallF} (hc : CallOK P G call) (hi : IntrOK P G E) {N mask : Nat}

theorem noLab_ok {c : Code} (h : ∀ l, findLabel c l = none) : LabOK P G call N mask c noLab := fun l => ⟨fun _ => h l, fun s hs => by simp [noLab] at hs⟩

include hE hP hc hi
theorem code_run : ∀ c : Code, dstsC N c = true → RunOK P G call N mask c (codeF E mask c).run ∧ LabOK P G call N mask c (codeF E mask c).lab := by
  intro c
  induction c with
  | skip =>
    intro _
    refine ⟨fun n tm h e tm' h' hf μ w a hr ht hw hs => ?_, noLab_ok fun l => rfl⟩
    have hf' : RC.ok .normal tm h = .ok e tm' h' := hf
    cases hf'
    exact wp_skip ⟨rfl, μ, .refl hr.hr ht hw hs⟩
  | region id ops draw => intro hd; exact ⟨region_run hE hP hc hi hd, noLab_ok fun l => rfl⟩
  | seq a b iha ihb =>
    intro hd
    obtain ⟨h1, h2⟩ := Bool.and_eq_true_iff.1 (show (dstsC N a && dstsC N b) = true from hd)
    obtain ⟨ra, la⟩ := iha h1
    obtain ⟨rb, lb⟩ := ihb h2
    refine ⟨seq_run ra rb, fun l => ?_⟩
    show (onO ((codeF E mask a).lab l) ((codeF E mask b).lab l) (fun s => some (seqS s (codeF E mask b).run)) = none → _) ∧ ∀ s, onO ((codeF E mask a).lab l) ((codeF E mask b).lab l) (fun s => some (seqS s (codeF E mask b).run)) = some s → _
    cases hl : (codeF E mask a).lab l with
    | none =>
      have h3 := (la l).1 hl
      simp only [onO_none]
      refine ⟨fun h => ?_, fun s h => ?_⟩
      · simp only [findLabel, h3]; exact (lb l).1 h
      · simp only [findLabel, h3]; exact (lb l).2 s h
    | some sa =>
      obtain ⟨rest, h3, h4⟩ := (la l).2 sa hl
      simp only [onO_some]
      refine ⟨fun h => by simp at h, fun s h => ?_⟩
      simp at h; subst h
      exact ⟨.seq rest b, by simp only [findLabel, h3], seq_run h4 rb⟩
  | cond x a b iha ihb =>
    intro hd
    obtain ⟨h1, h2⟩ := Bool.and_eq_true_iff.1 (show (dstsC N a && dstsC N b) = true from hd)
    exact ⟨cond_run (iha h1).1 (ihb h2).1, noLab_ok fun l => rfl⟩
  | block id b ih => intro hd; exact ⟨block_run (ih hd).1, noLab_ok fun l => rfl⟩
  | loop b ih => intro hd; exact ⟨loop_run (ih hd).1, noLab_ok fun l => rfl⟩
  | rangeFunc f ps x b _ _ => intro _; exact ⟨fun n tm h e tm' h' hf => by exact absurd (show RC.no = .ok e tm' h' from hf) (by simp), noLab_ok fun l => rfl⟩
  | exit id =>
    intro _
    refine ⟨fun n tm h e tm' h' hf μ w a hr ht hw hs => ?_, noLab_ok fun l => rfl⟩
    have hf' : RC.ok (.exit id) tm h = .ok e tm' h' := hf
    cases hf'
    exact wp_exit ⟨rfl, μ, .refl hr.hr ht hw hs⟩
  | scope b ih => intro hd; exact ⟨scope_run (ih hd).1 (ih hd).2, noLab_ok fun l => rfl⟩
  | label l0 =>
    intro _
    refine ⟨fun n tm h e tm' h' hf μ w a hr ht hw hs => ?_, fun l => ?_⟩
    · have hf' : RC.ok .normal tm h = .ok e tm' h' := hf
      cases hf'
      exact wp_label ⟨rfl, μ, .refl hr.hr ht hw hs⟩
    · show (ifB (Nat.beq l0 l) _ _ = none → _) ∧ ∀ s, ifB (Nat.beq l0 l) _ _ = some s → _
      cases hb : Nat.beq l0 l with
      | false =>
        refine ⟨fun _ => ?_, fun s h => by simp at h⟩
        have := Nat.ne_of_beq_eq_false hb
        simp [findLabel, this]
      | true =>
        refine ⟨fun h => by simp at h, fun s h => ?_⟩
        have := Nat.eq_of_beq_eq_true hb
        simp at h; subst h
        refine ⟨.skip, by simp [findLabel, this], fun n tm h e tm' h' hf μ w a hr ht hw hs => ?_⟩
        have hf' : RC.ok .normal tm h = .ok e tm' h' := hf
        cases hf'
        exact wp_skip ⟨rfl, μ, .refl hr.hr ht hw hs⟩
  | goto l0 =>
    intro _
    refine ⟨fun n tm h e tm' h' hf μ w a hr ht hw hs => ?_, noLab_ok fun l => rfl⟩
    have hf' : RC.ok (.goto l0) tm h = .ok e tm' h' := hf
    cases hf'
    exact wp_goto ⟨rfl, μ, .refl hr.hr ht hw hs⟩
  | ret =>
    intro _
    refine ⟨fun n tm h e tm' h' hf μ w a hr ht hw hs => ?_, noLab_ok fun l => rfl⟩
    have hf' : RC.ok .ret tm h = .ok e tm' h' := hf
    cases hf'
    exact wp_ret ⟨rfl, μ, .refl hr.hr ht hw hs⟩
  | refuse why => intro _; exact ⟨fun n tm h e tm' h' hf => by exact absurd (show RC.no = .ok e tm' h' from hf) (by simp), noLab_ok fun l => rfl⟩
end

theorem ressA_cons (E : Env) (r : ResultVar) (rs : List ResultVar) (tm : Tm) (h : Heap) : ressA E (r :: rs) tm h = (resA E r tm h).on .no fun v => (ressA E rs tm h).on .no fun l => .ok (v :: l) := rfl
theorem R1.on_eq' {β : Type} {r : R1} {no z : β} {k : AVal → β} (h : r.on no k = z) (hn : no ≠ z) : ∃ v, r = .ok v ∧ k v = z := by
  cases r with
  | no => exact absurd h hn
  | ok v => exact ⟨v, rfl, h⟩
section
variable {P : Program} {E : Env} {G : Keep} (hE : EnvOK P E)
include hE
theorem res_ok {μ : Mu} {h : Heap} {w : World} {tm : Tm} {a : Act} (hr : HR μ h w) (ht : TmT μ tm a) {r : ResultVar} {v : AVal} (hv : resA E r tm h = .ok v) :
    ∃ v', V μ v v' ∧ ∀ g : ResultVar → Sem Value, (∀ t, g (.tmp t) = pure (a.tmps.getD t undef)) → (∀ x t, g (.cell x t) = (do loadVar t (← asAddr (a.tmps.getD x undef)))) → (g r).run P w = .ok v' w := by
  cases r with
  | tmp t =>
    simp only [resA] at hv
    cases hx : tm.get t with
    | none => rw [hx] at hv; simp at hv
    | some x => rw [hx] at hv; simp at hv; subst hv; exact ⟨_, ht t x hx, fun g h1 _ => by rw [h1]; rfl⟩
  | cell x t =>
    simp only [resA] at hv
    cases hti : tyO E t with
    | none => rw [hti] at hv; simp at hv
    | some ti =>
      rw [hti, onO_some] at hv
      cases hx : tm.get x with
      | none => rw [hx] at hv; simp at hv
      | some y =>
        rw [hx, onO_some] at hv
        have hvy := ht x y hx
        obtain ⟨v', h1, h2⟩ := load_ok hE hr (t := t) (ti := ti) (x := y) (v := v) hti hv hvy
        refine ⟨v', h2, fun g _ hg => ?_⟩
        rw [hg]
        cases y <;> simp only [onPtr] at hv <;> try (simp at hv; done)
        rename_i b o
        generalize a.tmps.getD x undef = z at hvy h1 ⊢
        cases hvy with
        | ptr _ _ rb sh sz hm => simpa [Instr.loadAt, Instr.sureAddr, asAddr] using h1
        | ptrDead _ _ ad hm => simpa [Instr.loadAt, Instr.sureAddr, asAddr] using h1
theorem ress_ok {μ : Mu} {h : Heap} {w : World} {tm : Tm} {a : Act} (hr : HR μ h w) (ht : TmT μ tm a) : ∀ {rs : List ResultVar} {l : List AVal}, ressA E rs tm h = .ok l →
    ∃ m, VL μ l m ∧ ∀ g : ResultVar → Sem Value, (∀ t, g (.tmp t) = pure (a.tmps.getD t undef)) → (∀ x t, g (.cell x t) = (do loadVar t (← asAddr (a.tmps.getD x undef)))) → (rs.mapM g).run P w = .ok m w := by
  intro rs
  induction rs with
  | nil => intro l hl; have hl' : RL.ok [] = .ok l := hl; cases hl'; exact ⟨[], .nil, fun g _ _ => by simp⟩
  | cons r rs ih =>
    intro l hl
    rw [ressA_cons] at hl
    obtain ⟨v, h1, hl⟩ := R1.on_eq' hl (by simp)
    obtain ⟨l2, h2, hl⟩ := RL.on_eq hl (by simp)
    simp at hl; subst hl
    obtain ⟨v', q2, q1⟩ := res_ok hE hr ht h1
    obtain ⟨m, q4, q3⟩ := ih h2
    refine ⟨v' :: m, .cons _ _ _ _ q2 q4, fun g h1 h2 => ?_⟩
    rw [List.mapM_cons]
    simp only [Sem.run_bind, q1 g h1 h2, Result.andThen_ok, q3 g h1 h2, Sem.run_pure]
theorem done_ok {μ : Mu} {h h' : Heap} {w : World} {tm : Tm} {a : Act} {fn : Func} {v : AVal} (hr : HR μ h w) (ht : TmT μ tm a) (hd : doneA E fn.results.toList tm h = .ok v h') : h' = h ∧ ∃ v', (results fn a.tmps).run P w = .ok v' w ∧ V μ v v' := by
  obtain ⟨l, h1, h2⟩ := RL.on_eq hd (by simp)
  obtain ⟨rfl, rfl⟩ := R2.ok_inj h2
  obtain ⟨m, q2, q1⟩ := ress_ok hE hr ht h1
  have hrun : ∀ r : Value, (if h : m.toArray.size = 1 then m.toArray[0] else .tuple m.toArray) = r → (results fn a.tmps).run P w = .ok r w := by
    intro r hr
    unfold results
    rw [Array.mapM_eq_mapM_toList]
    simp only [Sem.run_bind, Sem.run_map]
    rw [q1 _ (fun _ => rfl) (fun _ _ => rfl)]
    simp only [Result.andThen_ok, Sem.run_pure, hr]
  refine ⟨rfl, _, hrun _ rfl, ?_⟩
  cases q2 with
  | nil => exact .tuple _ _ .nil
  | cons x y l m h hl =>
    cases hl with
    | nil => exact h
    | cons x2 y2 l m hb hl => exact .tuple _ _ (.cons _ _ _ _ h (.cons _ _ _ _ hb hl))
end

theorem fillT_args {μ : Mu} {l : List AVal} {m : List Value} (h : VL μ l m) {i : Nat} {x : AVal} (hx : (fillT l 0 .leaf).get i = some x) : ∃ y, m[i]? = some y ∧ V μ x y ∧ i < l.length := by
  rw [fillT_get] at hx
  split at hx
  · rename_i hi
    obtain ⟨y, h1, h2⟩ := h.get (i := i) (x := x) (by simpa using hx)
    exact ⟨y, h1, h2, by omega⟩
  · simp at hx
theorem tB_ones (n t : Nat) : tB (Nat.sub (Nat.pow 2 n) 1) t = decide (t < n) := tB_all
section
variable {P : Program} {E : Env} {G : Keep} (hE : EnvOK P E) (hP : PlainOK P E) (hF : FnOK P E) (hi : IntrOK P G E)
include hE hP hF hi
theorem body_ok {call : CallF} (hc : CallOK P G call) {f : FuncId} {fn : Func} (hfn : E.fn f = some fn) {mask n : Nat} {args : List AVal} {h h' : Heap} {v : AVal} (hb : bodyF E mask fn call n args h = .ok v h') {μ : Mu} {w : World} {args' : Array Value} (hr : Ok G μ h w) (ha : VL μ args args'.toList) :
    CallRes P f args' μ h w v h' := by
  obtain ⟨h1, h2, h3⟩ := hF.fn f fn hfn
  unfold bodyF at hb
  cases hbd : fn.body with
  | none => rw [hbd] at hb; simp at hb
  | some b =>
    rw [hbd, onO_some] at hb
    simp only [forceN_eq] at hb
    generalize hm : Nat.lor mask (Nat.sub (Nat.pow 2 args.length) 1) = mk at hb
    have hlen := ha.length
    simp at hlen
    let N := (args' ++ Array.replicate (fn.ntmps - args'.size) undef).size
    have hN : fn.ntmps ≤ N := by simp [N]; omega
    have hds : dstsC N b = true := by
      have mono : ∀ (c : Code) (n m : Nat), n ≤ m → dstsC n c = true → dstsC m c = true := by
        intro c n m hnm
        induction c with
        | region id ops d =>
          intro h
          refine List.all_eq_true.2 fun o ho => ?_
          have := List.all_eq_true.1 (show dstsR n ops.toList = true from h) o ho
          cases hd : o.dst with
          | none => rfl
          | some d => rw [hd] at this; exact ble_true.2 (Nat.le_trans (ble_true.1 this) hnm)
        | seq a b iha ihb => intro h; obtain ⟨x, y⟩ := Bool.and_eq_true_iff.1 (show (dstsC n a && dstsC n b) = true from h); exact Bool.and_eq_true_iff.2 ⟨iha x, ihb y⟩
        | cond x a b iha ihb => intro h; obtain ⟨x, y⟩ := Bool.and_eq_true_iff.1 (show (dstsC n a && dstsC n b) = true from h); exact Bool.and_eq_true_iff.2 ⟨iha x, ihb y⟩
        | block id b ih => exact ih
        | loop b ih => exact ih
        | scope b ih => exact ih
        | rangeFunc => intro _; rfl
        | skip => intro _; rfl
        | exit => intro _; rfl
        | label => intro _; rfl
        | goto => intro _; rfl
        | ret => intro _; rfl
        | refuse => intro _; rfl
      exact mono b _ _ hN (h3 b hbd)
    have run := (code_run hE hP hc hi (N := N) (mask := mk) b hds).1
    let a0 : Act := { tmps := args' ++ Array.replicate (fn.ntmps - args'.size) undef, defers := [] }
    have htm : TmT μ (fillT args 0 .leaf) a0 := fun i x hx => by
      obtain ⟨y, e1, e2, e3⟩ := fillT_args ha hx
      have : a0.tmps.getD i undef = y := by
        have e4 : args'[i]? = some y := by simpa using e1
        obtain ⟨e5, e6⟩ := Array.getElem?_eq_some_iff.1 e4
        show (args' ++ Array.replicate (fn.ntmps - args'.size) undef).getD i undef = y
        rw [Array.getD_eq_getD_getElem?, Array.getElem?_append_left e5, e4]; rfl
      rw [this]; exact e2
    have hwi : Within mk (fillT args 0 .leaf) := fun i hx => by
      cases hg : (fillT args 0 Trie.leaf : Tm).get i with
      | none => exact absurd hg hx
      | some x =>
        obtain ⟨y, e1, e2, e3⟩ := fillT_args ha hg
        rw [← hm, tB_lor, tB_ones]; simp [e3]
    have key : ∀ e tm' h1, (codeF E mk b).run call n (fillT args 0 .leaf) h = .ok e tm' h1 → (e = .normal ∨ e = .ret) → doneA E fn.results.toList tm' h1 = .ok v h' → CallRes P f args' μ h w v h' := fun e tm' h1' hrun he hd => by
      right
      refine ⟨?_, ?_⟩
      · have hne : (fn.name == "runtime.NumGoroutine") = false := by simpa using h2
        simp only [callFunc, Sem.run_bind, run_program, Result.andThen_ok, h1, hne, hbd]
        simp
      · refine calls_of_wp h1 hbd ?_
        refine wp_mono (run n _ h e tm' h1' hrun μ w a0 hr htm hwi rfl) fun q a' w' hq => ?_
        obtain ⟨rfl, μ', af⟩ := hq
        obtain ⟨rfl, v', q1, q2⟩ := done_ok hE (fn := fn) af.stp.hr af.tm hd
        rcases he with rfl | rfl
        · exact ⟨af.defs, v', q1, v', μ', rfl, af.stp, q2⟩
        · exact ⟨af.defs, v', q1, v', μ', rfl, af.stp, q2⟩
    cases hrun : (codeF E mk b).run call n (fillT args 0 .leaf) h with
    | no => rw [hrun] at hb; simp at hb
    | ok e tm' h1' =>
      rw [hrun] at hb
      cases e with
      | normal => exact key _ _ _ hrun (.inl rfl) hb
      | ret => exact key _ _ _ hrun (.inr rfl) hb
      | exit i => simp at hb
      | goto i => simp at hb

/-- what the evaluator says is so -/
theorem fnA_ok : ∀ n, CallOK P G (fnA E n) := by
  intro n
  induction n with
  | zero => intro f args h v h' hf; exact absurd (show R2.no = .ok v h' from hf) (by simp)
  | succ n ih =>
    intro f args h v h' hf μ w args' hr ha
    have hf' : onO (E.fn f) .no (fun fn => bodyF E (E.mask f) fn (fnA E n) n args h) = .ok v h' := hf
    obtain ⟨fn, h1, h2⟩ := onO_eq hf' (by simp)
    exact body_ok hE hP hF hi ih h1 h2 hr ha
end
end Go.Ev
namespace Go.Ev
set_option linter.unusedVariables false
/-- each entry is so, at its place -/
def AllAt {α : Type} (Q : Nat → α → Prop) (t : Trie α) : (Nat → Nat) → Prop :=
  Trie.rec (motive := fun _ => (Nat → Nat) → Prop) (fun _ => True) (fun _ v _ al ar g => (∀ x, v = some x → Q (g 0) x) ∧ al (fun p => g (2 * p + 1)) ∧ ar (fun p => g (2 * p + 2))) t
theorem leaf_all {α : Type} {Q : Nat → α → Prop} {g : Nat → Nat} : AllAt Q .leaf g := trivial
theorem node_all {α : Type} {Q : Nat → α → Prop} {g : Nat → Nat} {l r : Trie α} {v : Option α} (h : ∀ x, v = some x → Q (g 0) x) (hl : AllAt Q l fun p => g (2 * p + 1)) (hr : AllAt Q r fun p => g (2 * p + 2)) : AllAt Q (.node l v r) g := ⟨h, hl, hr⟩
theorem so {α : Type} {R : α → Prop} {x : α} (h : R x) : ∀ y, some x = some y → R y := fun y e => by cases e; exact h
theorem so0 {α : Type} {R : α → Prop} : ∀ y, (none : Option α) = some y → R y := fun y e => by cases e
theorem all_get {α : Type} {Q : Nat → α → Prop} : ∀ (t : Trie α) (g : Nat → Nat), AllAt Q t g → ∀ p x, t.get p = some x → Q (g p) x := by
  intro t
  induction t with
  | leaf => intro g _ p x h; simp at h
  | node l v r ihl ihr =>
    intro g h p x hx
    obtain ⟨h0, h1, h2⟩ := h
    cases p with
    | zero => exact h0 x hx
    | succ q =>
      rw [Trie.get_succ] at hx
      split at hx
      · rename_i hq
        have := ihl _ h1 _ x hx
        rwa [show 2 * (q / 2) + 1 = q + 1 by omega] at this
      · rename_i hq
        have := ihr _ h2 _ x hx
        rwa [show 2 * (q / 2) + 2 = q + 1 by omega] at this
/-- is each entry so? -/
def optB {α : Type} (q : α → Bool) (v : Option α) : Bool := match v with | some x => q x | none => true
noncomputable def allB {α : Type} (q : α → Bool) (t : Trie α) : Bool :=
  Trie.rec (motive := fun _ => Bool) true (fun _ v _ al ar => optB q v && (al && ar)) t
theorem allB_get {α : Type} {q : α → Bool} : ∀ (t : Trie α), allB q t = true → ∀ p x, t.get p = some x → q x = true := by
  intro t
  induction t with
  | leaf => intro _ p x h; simp at h
  | node l v r ihl ihr =>
    intro h p x hx
    obtain ⟨h0, h3⟩ := Bool.and_eq_true_iff.1 (show (optB q v && (allB q l && allB q r)) = true from h)
    obtain ⟨h1, h2⟩ := Bool.and_eq_true_iff.1 h3
    cases p with
    | zero => have hx' : v = some x := hx; subst hx'; exact h0
    | succ k =>
      rw [Trie.get_succ] at hx
      split at hx
      · exact ihl h1 _ x hx
      · exact ihr h2 _ x hx
/-- is a function's code one that the evaluator may run? -/
noncomputable def fnGood (fn : Func) : Bool := !(fn.name == "runtime.NumGoroutine") && (match fn.body with | some b => dstsC fn.ntmps b | none => true)
theorem fnOK_of {P : Program} {E : Env} {t : Trie Func} (hE : ∀ f, E.fn f = t.get f) (h : AllAt (fun i x => P.funcs[i]? = some x) t id) (hb : allB fnGood t = true) : FnOK P E :=
  ⟨fun f fn hf => by
    rw [hE] at hf
    have h1 := all_get t id h f fn hf
    have h2 := allB_get t hb f fn hf
    obtain ⟨h3, h4⟩ := Bool.and_eq_true_iff.1 h2
    refine ⟨h1, by simpa using h3, fun b e => ?_⟩
    rw [e] at h4; exact h4⟩
end Go.Ev
