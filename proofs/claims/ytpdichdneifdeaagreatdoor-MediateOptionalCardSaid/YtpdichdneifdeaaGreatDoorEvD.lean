import Derived.Test.YtpdichdneifdeaaGreatDoorEvC
import Derived.Lib.UnsafeStr
import Derived.Calls
import Derived.Orders
namespace Go.Ev
set_option linter.unusedVariables false
set_option linter.unusedSimpArgs false

theorem rh_eq {v0 v : AVal} {r : RH} {h' : Heap} (h : rh v0 r = .ok v h') : r = .ok h' ∧ v = v0 := by
  cases r with
  | no => simp at h
  | ok h1 => simp at h; exact ⟨by rw [h.2], h.1.symm⟩

section
variable {P : Program} {E : Env} (hE : EnvOK P E) {μ : Mu} {h : Heap} {w : World} (hr : HR μ h w)
include hr
/-- cells are stored into a slice -/
theorem put_ok {b o l : Nat} {cap : ACap} {c : List AVal} {vs : List Value} {a : Addr} {cc : Nat} {h' : Heap} (hs : storeCs h b o c = .ok h') (hx : V μ (.slice b o l cap) (.slice (some a) l cc)) (hl : VL μ c vs) (hc : ∀ y ∈ vs, IsCell y) (h0 : l = 0 → vs = []) :
    ∃ w', (storeCells a vs).run P w = .ok () w' ∧ Stp μ h w μ h' w' := by
  have hnd : μ b ≠ .dead := by
    obtain ⟨e', s, t', hb, _⟩ := blk_cells hs (by simp)
    exact not_dead hr hb
  have go : ∀ rb sh sz off, μ b = .live rb sh sz → (off = sh + o ∨ l = 0) → ∃ w', (storeCells ⟨rb, off, none⟩ vs).run P w = .ok () w' ∧ Stp μ h w μ h' w' := by
    intro rb sh sz off hm ho
    obtain ⟨w', q1, q2⟩ := stores_ok (P := P) hr hs hm hl hc
    rcases ho with rfl | ho
    · exact ⟨w', q1, q2⟩
    · have := h0 ho; subst this
      refine ⟨w', ?_, q2⟩
      simpa [storeCells] using q1
  cases hx with
  | sliceX _ _ _ _ rb sh sz off hm hlc ho => exact go rb sh sz off hm (by omega)
  | sliceG _ _ _ z rb sh sz off _ hm hlc ho => exact go rb sh sz off hm (by omega)
  | sliceDX _ _ _ _ _ hm hlc => exact absurd hm hnd
  | sliceDG _ _ _ z _ _ hm hlc => exact absurd hm hnd

include hE
theorem copy_ok {ts : Array TypeId} {t e ty : TypeId} {ag : Bool} {z : Nat} {d s v : AVal} {d' s' : Value} {h' : Heap} (h0 : ts[0]? = some t) (he : elemO E t = some (e, ag, z))
    (hl : copyA z h d s = .ok v h') (hd : V μ d d') (hs : V μ s s') : Res P (Builtin.copy_ ts ty #[d', s']) μ h w v h' := by
  obtain ⟨hu, hty⟩ := elemO_ok hE he
  have srun := run_sizeOf_ok hE hty
  obtain ⟨m, hm, hl⟩ := onO_eq hl (by simp)
  obtain ⟨k, hk, hl⟩ := onO_eq hl (by simp)
  rw [forceN_eq] at hl
  obtain ⟨c, hc, hl⟩ := RL.on_eq hl (by simp)
  have e0 : (#[d', s'] : Array Value)[0]? = some d' := rfl
  have e1 : (#[d', s'] : Array Value)[1]? = some s' := rfl
  have hn : (Builtin.lenOf s').run P w = .ok m w := by
    cases s <;> simp only [lenOfA] at hm <;> try (simp at hm; done)
    · obtain ⟨sb, rfl, rfl, rfl⟩ := strV hs
      simp at hm; subst hm
      simp [Builtin.lenOf]
    · cases hs; simp at hm; subst hm; simp [Builtin.lenOf]
    · simp at hm; subst hm; cases hs <;> simp [Builtin.lenOf]
  have hsrc : (s = .sliceNil ∧ Nat.min m k = 0 ∧ c = []) ∨ (∃ b o l cp, s = .slice b o l cp ∧ Nat.min m k ≤ l ∧ loadCs h b o (Nat.mul (Nat.min m k) z) = .ok c) ∨ (∃ v l, s = .str v l ∧ Nat.min m k ≤ l ∧ c = (bytesOf l v []).take (Nat.min m k)) := by
    cases s <;> simp only [lenOfA] at hm <;> try (simp at hm; done)
    · simp at hm; subst hm
      refine .inr (.inr ⟨_, _, rfl, Nat.min_le_left .., by simpa using hc.symm⟩)
    · simp at hm; subst hm
      refine .inl ⟨rfl, Nat.zero_min _, by simpa using hc.symm⟩
    · simp at hm; subst hm
      exact .inr (.inl ⟨_, _, _, _, rfl, Nat.min_le_left .., hc⟩)
  obtain ⟨vs, hvs, hvl, hvc, hvn1, hvn2⟩ := src_ok (P := P) hr (z := z) hsrc hs
  cases d <;> simp only [lenOfA] at hk hl <;> try (simp at hk hl; done)
  · simp at hk; subst hk
    simp at hl
    obtain ⟨rfl, rfl⟩ := hl
    cases hd
    have hz : Nat.min m 0 = 0 := Nat.min_zero _
    have hv := hvs w rfl
    rw [hz] at hv
    refine ⟨goInt 0, w, μ, ?_, Stp.refl hr, .int _ _⟩
    simp only [Builtin.copy_, h0, e0, e1, Sem.run_bind, run_underlying hu, hn, srun, hz, hv, Result.andThen_ok, Sem.run_pure]
    rfl
  · rename_i b o l cap _ _ _
    simp at hk; subst hk
    obtain ⟨hl2, rfl⟩ := rh_eq hl
    have hbase : ∃ a cc, d' = .slice (some a) l cc := by cases hd <;> exact ⟨_, _, rfl⟩
    obtain ⟨a, cc, rfl⟩ := hbase
    obtain ⟨w', q1, q2⟩ := put_ok (P := P) hr hl2 hd hvl hvc (fun h => by
      subst h
      have hz : Nat.min m 0 = 0 := Nat.min_zero _
      rw [hz] at hvn1 hvn2
      have : vs.length = 0 := by
        by_cases hst : ∃ v l, s = .str v l
        · exact hvn2 hst
        · have := hvn1 fun v l e => hst ⟨v, l, e⟩
          simpa using this
      exact List.length_eq_zero_iff.1 this)
    refine ⟨goInt (Nat.min m l), w', μ, ?_, q2, .int _ _⟩
    simp only [Builtin.copy_, h0, e0, e1, Sem.run_bind, run_underlying hu, hn, srun, hvs w rfl, Result.andThen_ok, q1, Sem.run_pure]

theorem clear_ok {ts : Array TypeId} {t e ty : TypeId} {ag : Bool} {z : Nat} {zl : List AVal} {x v : AVal} {x' : Value} {h' : Heap} (h0 : ts[0]? = some t) (he : elemO E t = some (e, ag, z)) (hz0 : cells0 E e = .ok zl)
    (hl : clearA zl h x = .ok v h') (hx : V μ x x') : Res P (Builtin.clear_ ts ty #[x']) μ h w v h' := by
  obtain ⟨hu, hty⟩ := elemO_ok hE he
  obtain ⟨i, zv, hi, hiz, zrun, hzv, hzc⟩ := zero_ok (μ := μ) hE (w := w) hz0
  have e0 : (#[x'] : Array Value)[0]? = some x' := rfl
  have vu : V μ undefA (.tuple #[]) := .tuple _ _ .nil
  cases x <;> simp only [clearA] at hl <;> try (simp at hl; done)
  · obtain ⟨rfl, rfl⟩ := R2.ok_inj hl
    cases hx
    exact ⟨_, w, μ, by simp [Builtin.clear_, h0, e0, run_underlying hu], Stp.refl hr, vu⟩
  · rename_i b o l cap
    have hbase : ∃ a cc, x' = .slice (some a) l cc := by cases hx <;> exact ⟨_, _, rfl⟩
    obtain ⟨a, cc, rfl⟩ := hbase
    cases hl0 : Nat.beq l 0 with
    | true =>
      rw [hl0] at hl
      obtain ⟨rfl, rfl⟩ := R2.ok_inj hl
      obtain rfl := beq_true.1 hl0
      exact ⟨_, w, μ, by simp [Builtin.clear_, h0, e0, run_underlying hu], Stp.refl hr, vu⟩
    | false =>
      rw [hl0, ifB_false] at hl
      obtain ⟨hl2, rfl⟩ := rh_eq hl
      have hne : l ≠ 0 := fun e => by rw [e] at hl0; simp at hl0
      obtain ⟨k, rfl⟩ : ∃ k, l = k + 1 := ⟨l - 1, by omega⟩
      obtain ⟨q1, q2⟩ := repL_ok (μ := μ) hzv hzc (k + 1)
      have hrow := rep_range zv.cells (k + 1) zv.cells.size rfl
      rw [← hrow] at q1 q2
      obtain ⟨w', r1, r2⟩ := put_ok (P := P) hr hl2 hx q1 q2 (by simp)
      refine ⟨_, w', μ, ?_, r2, vu⟩
      simp [Builtin.clear_, h0, e0, run_underlying hu, zrun, Builtin.zeroCells]
      simp at r1
      simp [r1]
end
end Go.Ev
namespace Go.Ev
set_option linter.unusedVariables false
set_option linter.unusedSimpArgs false
theorem strOf_cons (v : AVal) (l : List AVal) (n len : Nat) : strOf (v :: l) n len = (match v with | .int k x => (match x with | .ofNat b => ifB (kEq k .u8 && Nat.ble b 255) (forceN (Nat.add (Nat.mul n (nat_lit 256)) b) fun n => forceN len fun len => strOf l n (Nat.succ len)) .no | _ => .no) | _ => .no) := rfl
theorem strOf_ok {μ : Mu} : ∀ (l : List AVal) (vs : List Value) (n len : Nat) (v : AVal), strOf l n len = .ok v → VL μ l vs → ∃ bs : List UInt8, vs = bs.map (fun b => Value.int .u8 (b.toNat : Int)) ∧ v = .str (packL bs n) (len + bs.length) := by
  intro l
  induction l with
  | nil => intro vs n len v h hl; cases hl; have : R1.ok (.str n len) = R1.ok v := h; cases this; exact ⟨[], rfl, rfl⟩
  | cons x l ih =>
    intro vs n len v h hl
    cases hl with
    | cons _ y _ m hx hl =>
      rw [strOf_cons] at h
      cases x <;> simp only at h <;> try (simp at h; done)
      rename_i k i
      cases i <;> simp only at h <;> try (simp at h; done)
      rename_i b
      obtain ⟨h1, h2⟩ := ifB_eq h (by simp)
      rw [Bool.and_eq_true, ble_true] at h1
      have hk := kEq_ok h1.1; subst hk
      simp only [forceN_eq] at h2
      obtain ⟨bs, rfl, rfl⟩ := ih m _ _ v h2 hl
      cases hx
      have hb : (UInt8.ofNat b).toNat = b := by simp; omega
      refine ⟨UInt8.ofNat b :: bs, ?_, ?_⟩
      · rw [List.map_cons, hb]; rfl
      · show AVal.str _ _ = .str (packL bs (n * 256 + (UInt8.ofNat b).toNat)) _
        rw [hb, List.length_cons]
        congr 1; omega

section
variable {P : Program} {E : Env} (hE : EnvOK P E) {μ : Mu} {h : Heap} {w : World} (hr : HR μ h w)
include hr
omit hr in
theorem bytesToString_run (f : Value → ByteArray → Sem (ForInStep ByteArray)) (hf : ∀ (b : UInt8) (s : ByteArray), f (.int .u8 (b.toNat : Int)) s = pure (.yield (s.push b))) (bs : List UInt8) : ∀ (acc : ByteArray), (forIn (bs.map fun b => Value.int .u8 (b.toNat : Int)) acc f : Sem ByteArray).run P w = .ok ⟨acc.data ++ bs.toArray⟩ w := by
  induction bs with
  | nil => intro acc; simp
  | cons b bs ih =>
    intro acc
    simp only [List.map_cons, List.forIn_cons, Sem.run_bind, hf, Sem.run_pure, Result.andThen_ok]
    rw [ih]
    congr 1
    apply ByteArray.ext
    simp [ByteArray.push]
theorem bstr_ok {x v : AVal} {x' : Value} {h' : Heap} (hv : convA .bstr h x = .ok v h') (hx : V μ x x') : Res P (Conv.bytesToString x') μ h w v h' := by
  cases x <;> simp only [convA] at hv <;> try (simp at hv; done)
  · obtain ⟨rfl, rfl⟩ := R2.ok_inj hv
    cases hx
    exact ⟨.string .empty, w, μ, by simp [Conv.bytesToString], Stp.refl hr, .str .empty⟩
  · rename_i b o l cap
    obtain ⟨c, hc, h1⟩ := RL.on_eq hv (by simp)
    have hbase : ∃ a cc, x' = .slice (some a) l cc := by cases hx <;> exact ⟨_, _, rfl⟩
    obtain ⟨a, cc, rfl⟩ := hbase
    obtain ⟨vs, q1, q2, q3, q4, _⟩ := src_ok (P := P) hr (z := 1) (n := l) (c := c) (.inr (.inl ⟨b, o, l, cap, rfl, Nat.le_refl _, by rw [show Nat.mul l 1 = l from Nat.mul_one l]; exact hc⟩)) hx
    have q1 := q1 w rfl
    simp only [Builtin.firstCells, Nat.mul_one] at q1
    have : ∃ u, strOf c 0 0 = .ok u ∧ u = v ∧ h = h' := by
      cases e : strOf c 0 0 with
      | no => rw [e] at h1; simp at h1
      | ok u => rw [e] at h1; simp at h1; exact ⟨u, rfl, h1⟩
    obtain ⟨u, h2, rfl, rfl⟩ := this
    obtain ⟨bs, rfl, rfl⟩ := strOf_ok c vs 0 0 u h2 q2
    refine ⟨.string ⟨bs.toArray⟩, w, μ, ?_, Stp.refl hr, ?_⟩
    · simp only [Conv.bytesToString, Sem.run_bind, q1, Result.andThen_ok, ← Array.forIn_toList]
      rw [bytesToString_run]
      · simp
      · intro b s
        have hx : UInt8.ofNat ((b.toNat : Int).toNat) = b := by simp
        simp only [hx]
    · rw [Nat.zero_add]; exact .str ⟨bs.toArray⟩

theorem toU_ok {src dst t : TypeId} {x v : AVal} {x' : Value} {h' : Heap} {ti : Bool × Nat} (hs : P.underlying src = some (.pointer t)) (hd : P.underlying dst = some .unsafePointer) (hty : ∀ w, (sizeOf t).run P w = .ok ti.2 w) (hz : 1 ≤ ti.2)
    (hv : convA .toU h x = .ok v h') (hx : V μ x x') : Res P (Conv.unsafePointer src dst x') μ h w v h' := by
  cases x <;> simp only [convA] at hv <;> try (simp at hv; done)
  rename_i b o
  obtain ⟨e, s, tb, hb, h1⟩ := blk_cells hv (by simp)
  obtain ⟨h2, h3⟩ := ifB_eq h1 (by simp)
  obtain ⟨rfl, rfl⟩ := R2.ok_inj h3
  have h2 := ble_true.1 h2
  cases hx with
  | ptrDead _ _ a hm => exact absurd hm (not_dead hr hb)
  | ptr _ _ rb sh sz hm =>
    obtain ⟨⟨ca, fr, c1, c2, c3, c4⟩, hf⟩ := live_cells hr hb hm
    have hsh : w.shape? rb = some (e, ca.size) := by simp [World.shape?, c1]
    refine ⟨_, w, μ, ?_, Stp.refl hr, .ptr b o rb sh sz hm⟩
    have hno : ¬ sh + o ≥ ca.size := by omega
    have hz' : ¬ ti.2 = 0 := by omega
    simp [Conv.unsafePointer, run_underlying hs, run_underlying hd, Conv.seenAt, viewAt, hsh, cellsIn, hty, hz', hno]

omit hr in
theorem cellsOf_ok {hE : EnvOK P E} {u : TypeId} {ti : Bool × Nat} (hty : tyO E u = some ti) : P.cellsOf u = ti.2 := by
  obtain ⟨i, d, h1, h2, _⟩ := ty_ok hE (ag := ti.1) (sz := ti.2) hty
  simp [Program.cellsOf, h1, h2]
omit hr in
theorem liesAt_one {e : TypeId} (hc : 1 ≤ P.cellsOf e) (count : Nat) (hn : 1 ≤ count) : liesAt P P.depth e count 0 e 1 = true := by
  have hd : P.depth = (2 * (P.types.size + Made.depth) + 1) + 1 := rfl
  have hc0 : ¬ P.cellsOf e = 0 := by omega
  rw [hd]
  simp only [liesAt, Bool.or_eq_true]
  left
  rw [hd]
  simp [rowAt, hc0, hn, sameLayout]
theorem fromU_ok (hE : EnvOK P E) {src dst u : TypeId} {x v : AVal} {x' : Value} {h' : Heap} {ti : Bool × Nat} (hs : P.underlying src = some .unsafePointer) (hd : P.underlying dst = some (.pointer u)) (hty : tyO E u = some ti) (hz : 1 ≤ ti.2)
    (hv : convA (.fromU u ti.2) h x = .ok v h') (hx : V μ x x') : Res P (Conv.unsafePointer src dst x') μ h w v h' := by
  cases x <;> simp only [convA] at hv <;> try (simp at hv; done)
  rename_i b o
  obtain ⟨e, s, tb, hb, h1⟩ := blk_cells hv (by simp)
  obtain ⟨h2, h3⟩ := ifB_eq h1 (by simp)
  obtain ⟨rfl, rfl⟩ := R2.ok_inj h3
  simp only [Bool.and_eq_true, beq_true, ble_true] at h2
  obtain ⟨⟨rfl, rfl⟩, h2⟩ := h2
  cases hx with
  | ptrDead _ _ a hm => exact absurd hm (not_dead hr hb)
  | ptr _ _ rb sh sz hm =>
    obtain rfl := hr.zero b rb sh sz hm
    obtain ⟨⟨ca, fr, c1, c2, c3, c4⟩, hf⟩ := live_cells hr hb hm
    have hsh : w.shape? rb = some (e, ca.size) := by simp [World.shape?, c1]
    have hco : P.cellsOf e = ti.2 := cellsOf_ok (hE := hE) hty
    have hlies : liesAt P P.depth e (ca.size / P.cellsOf e) 0 e 1 = true := liesAt_one (by omega) _ ((Nat.le_div_iff_mul_le (by omega)).2 (by omega))
    refine ⟨_, w, μ, ?_, Stp.refl hr, .ptr b 0 rb 0 sz hm⟩
    have hz' : ¬ ti.2 = 0 := by omega
    simp [Conv.unsafePointer, run_underlying hs, run_underlying hd, Conv.seenAt, viewAt, hsh, run_sizeOf_ok hE (ag := ti.1) (sz := ti.2) hty, hz', variablesAt, hlies]
end
end Go.Ev
namespace Go.Ev
set_option linter.unusedVariables false
set_option linter.unusedSimpArgs false

theorem push_modify {α : Type} (a : Array α) (o : α) (f : α → α) : (a.push o).modify a.size f = a.push (f o) := by
  apply Array.ext_getElem?
  intro i
  rw [Array.getElem?_modify, Array.getElem?_push, Array.getElem?_push]
  by_cases h : i = a.size
  · subst h; simp
  · simp [h, Ne.symm h]

section
variable {P : Program} {E : Env} (hE : EnvOK P E) {μ : Mu} {h : Heap} {w : World} (hr : HR μ h w)
include hr
omit hr in
theorem freeze_heap (w : World) (rb off n : Nat) (c : Array Value) (e : TypeId) (fr : Nat × Nat) (hn : n ≠ 0) (hw : w.heap[rb]? = some (.cells c e fr)) :
    (w.freeze ⟨rb, off, none⟩ n).heap.size = w.heap.size ∧ (∀ r, r ≠ rb → (w.freeze ⟨rb, off, none⟩ n).heap[r]? = w.heap[r]?) ∧ (w.freeze ⟨rb, off, none⟩ n).tape = w.tape ∧ (w.freeze ⟨rb, off, none⟩ n).os = w.os ∧ (w.freeze ⟨rb, off, none⟩ n).output = w.output := by
  simp only [World.freeze, hn, if_false]
  refine ⟨by simp, fun r hr => ?_, by simp⟩
  rw [Array.getElem?_modify]; simp [Ne.symm hr]

theorem bytes_ok {e : TypeId} {x v : AVal} {s : ByteArray} {h' : Heap} (hv : convA (.bytes e) h x = .ok v h') (hx : V μ x (.string s)) : Res P (Conv.stringToBytes e s) μ h w v h' := by
  cases x <;> simp only [convA] at hv <;> try (simp at hv; done)
  rename_i n l
  obtain ⟨s', hs, rfl, rfl⟩ := strV hx
  obtain rfl : s = s' := by simpa using hs
  obtain ⟨h1, h2⟩ := ifB_eq hv (by simp)
  rw [newCells_eq] at h2
  obtain ⟨rfl, rfl⟩ := R2.ok_inj h2
  have hsz : s.data.toList.length = s.size := by rw [Array.length_toList]; rfl
  rw [bytesOf_ok, List.append_nil]
  have hge := grownCap_ge w s.size 0 e
  let cs : Array Value := (s.data.map fun b => Value.int .u8 (b.toNat : Int)) ++ Array.replicate (grownCap w s.size 0 e - s.size) (.int .u8 0)
  have hcs : cs.size = grownCap w s.size 0 e := by
    simp only [cs, Array.size_append, Array.size_map, Array.size_replicate]
    have : s.data.size = s.size := rfl
    omega
  have hf : Question.forced (.appendCap s.size 0 e) = false := rfl
  have hrun : (Conv.stringToBytes e s).run P w = .ok (.slice (some ⟨w.heap.size, 0, none⟩) s.size (grownCap w s.size 0 e)) { w.drew with heap := w.heap.push (.cells cs e (cs.size, cs.size + 1)) } := by
    have hsh : (w.drew.alloc (.cells cs e)).shape? w.heap.size = some (e, cs.size) := by
      show (match (w.heap.push (.cells cs e))[w.heap.size]? with | some (.cells c elem _) => some (elem, c.size) | _ => none) = _
      rw [Array.getElem?_push_size]
    have hfr : (w.drew.alloc (.cells cs e)).freeze ⟨w.heap.size, cs.size, none⟩ 1 = { w.drew with heap := w.heap.push (.cells cs e (cs.size, cs.size + 1)) } := by
      simp only [World.freeze, World.alloc]
      have : (w.drew.heap.push (Obj.cells cs e (0, 0))) = w.heap.push (.cells cs e (0, 0)) := rfl
      rw [if_neg (by omega), this]
      rw [push_modify]
      rfl
    simp only [Conv.stringToBytes, Sem.run_bind, run_choose, World.drew_eq, hf, Bool.false_eq_true, if_false, Result.andThen_ok, newRow, run_newObj, Sem.run_pure, markStringish, run_shape]
    change (Result.andThen (Sem.run P (match (w.drew.alloc (.cells cs e)).shape? w.heap.size with | some (_, n) => freeze ⟨w.heap.size, n, none⟩ 1 | _ => pure ()) (w.drew.alloc (.cells cs e))) _) = _
    rw [hsh]
    simp only [run_freeze, Result.andThen_ok, hfr]
    rfl
  refine ⟨_, _, _, hrun, Stp.drew (Stp.cells hr.drew e _ cs ?_ ?_ _ (cs.size, cs.size + 1) (fun j hj hh => by omega) rfl rfl rfl rfl), ?_⟩
  · rw [hcs, List.length_map, hsz]; exact hge
  · intro i v hv
    obtain ⟨v', q1, q2, q3⟩ := (VL.bytes μ s.data.toList).all (cell_bytes _) hv
    refine ⟨v', ?_, q2, q3⟩
    have hi : i < s.data.size := by
      rcases Nat.lt_or_ge i s.data.size with h | h
      · exact h
      · rw [List.getElem?_eq_none (by simpa using h)] at q1; simp at q1
    show ((s.data.map fun b => Value.int .u8 (b.toNat : Int)) ++ _)[i]? = _
    rw [Array.getElem?_append_left (by simpa using hi)]
    simpa using q1
  · rw [hsz]
    exact .sliceG h.next 0 s.size 1 w.heap.size 0 cs.size 0 _ (bear_same _ _ _) hge (.inr ⟨rfl, by omega⟩)

omit hr in
theorem asI64_V {x : AVal} {x' : Value} {n : Nat} (h : asI64 x = some n) (hx : V μ x x') : x' = .int .i64 (n : Int) := by
  cases x <;> simp only [asI64] at h <;> try (simp at h; done)
  obtain ⟨h1, h2⟩ := ifB_eq h (by simp)
  obtain rfl := kEq_ok h1
  split at h2
  · simp at h2; subst h2; cases hx; rfl
  · simp at h2
theorem unsafeString_ok (hE : EnvOK P E) {ts : Array TypeId} {st u ty : TypeId} {p n v : AVal} {p' n' : Value} {h' : Heap} {it : TypeId} (h0 : ts = #[st, it]) (hu : ptrElem E st = some u) (hv : unsafeStringA u h p n = .ok v h') (hp : V μ p p') (hn : V μ n n') :
    Res P (Builtin.unsafeString_ ts ty #[p', n']) μ h w v h' := by
  have hus : P.underlying st = some (.pointer u) ∧ P.cellsOf u = 1 := by
    unfold ptrElem at hu
    split at hu
    · rename_i hd
      obtain ⟨ti, h0, h1⟩ := onO_eq hu (by simp)
      obtain ⟨h3, h2⟩ := ifB_eq h1 (by simp)
      simp at h2; subst h2
      rw [Bool.and_eq_true, beq_true] at h3
      exact ⟨und_ok hE hd (by simp), by rw [cellsOf_ok (hE := hE) h0]; exact h3.2⟩
    · simp at hu
  obtain ⟨hst, hu8⟩ := hus
  obtain ⟨m, hmn, hv⟩ := onO_eq hv (by simp)
  obtain rfl := asI64_V hmn hn
  subst h0
  cases hm0 : Nat.beq m 0 with
  | true =>
    rw [hm0] at hv
    obtain rfl := beq_true.1 hm0
    cases p <;> simp only [ifB_true] at hv <;> try (simp at hv; done)
    · obtain ⟨rfl, rfl⟩ := R2.ok_inj hv
      cases hp
      exact ⟨.string .empty, w, μ, Lib.run_unsafeString_none _ _ _ _ _, Stp.refl hr, .str .empty⟩
    · obtain ⟨rfl, rfl⟩ := R2.ok_inj hv
      cases hp <;> exact ⟨.string .empty, w, μ, Lib.run_unsafeString_none _ _ _ _ _, Stp.refl hr, .str .empty⟩
  | false =>
    rw [hm0, ifB_false] at hv
    have hne : m ≠ 0 := fun e => by rw [e] at hm0; simp at hm0
    cases p <;> simp only at hv <;> try (simp at hv; done)
    rename_i b o _
    obtain ⟨e, s, tb, hb, h1⟩ := blk_cells hv (by simp)
    obtain ⟨h2, h3⟩ := ifB_eq h1 (by simp)
    simp only [Bool.and_eq_true, beq_true, ble_true] at h2
    obtain ⟨⟨⟨rfl, rfl⟩, h2⟩, h2b⟩ := h2
    obtain ⟨l, h4, h5⟩ := RL.on_eq h3 (by simp)
    have : ∃ x, strOf l 0 0 = .ok x ∧ x = v ∧ h.setBlk b .dead = h' := by
      cases e : strOf l 0 0 with
      | no => rw [e] at h5; simp at h5
      | ok x => rw [e] at h5; simp at h5; exact ⟨x, rfl, h5⟩
    obtain ⟨x, h6, rfl, rfl⟩ := this
    cases hp with
    | ptrDead _ _ a hm => exact absurd hm (not_dead hr hb)
    | ptr _ _ rb sh sz hm =>
      obtain rfl := hr.zero b rb sh sz hm
      obtain ⟨⟨ca, fr, c1, c2, c3, c4⟩, hf⟩ := live_cells hr hb hm
      obtain ⟨vs, q1, q2, q3, q4, q5⟩ := loadsX_ok (P := P) hr hb h4 (by omega) hm
      obtain ⟨bs, rfl, rfl⟩ := strOf_ok l _ 0 0 x h6 q2
      have hlen : bs.length = m := by simpa using q4
      have hsh : w.shape? rb = some (e, ca.size) := by simp [World.shape?, c1]
      have hz : P.cellsOf e = 1 := hu8
      have hlies := Lib.liesAt_bytes (P := P) hz (ca.size / P.cellsOf e) bs.length (by rw [hz]; simp; omega)
      have hcell : ∀ j x, bs[j]? = some x → w.cell? ((⟨rb, 0 + 0, none⟩ : Addr).add j) = some (.int .u8 x.toNat) := by
        intro j x hj
        rw [Addr.add_lit]
        exact q5 j _ (by rw [List.getElem?_map, hj]; rfl)
      have hlb := Lib.run_loadBytes (P := P) w bs ⟨rb, 0 + 0, none⟩ .empty hcell
      subst hlen
      obtain ⟨f1, f2, f3, f4, f5⟩ := freeze_heap w rb (0 + 0) bs.length ca e fr hne c1
      refine ⟨.string ⟨bs.toArray⟩, w.freeze ⟨rb, 0 + 0, none⟩ bs.length, _, ?_, Stp.kill hr hb hm _ f1 f2 (.inr (by simp)) f3 f4 f5, ?_⟩
      · have := Lib.run_unsafeString_row (P := P) w st it ty e hst hu8 rb ca.size hsh bs (fun e => hne (by rw [e]; rfl)) (by simpa using (by omega : 0 + bs.length ≤ ca.size)) (by omega) (by simpa using hcell)
        simpa using this
      · rw [Nat.zero_add]; exact .str ⟨bs.toArray⟩
end
end Go.Ev
namespace Go.Ev
set_option linter.unusedVariables false
set_option linter.unusedSimpArgs false

structure FnOK (P : Program) (E : Env) : Prop where
  fn : ∀ f fn, E.fn f = some fn → P.funcs[f]? = some fn ∧ fn.name ≠ "runtime.NumGoroutine" ∧ ∀ b, fn.body = some b → dstsC fn.ntmps b = true

/-- variables that nobody writes, and what they hold -/
abbrev Keep := Nat → Option Obj
structure Ok (G : Keep) (μ : Mu) (h : Heap) (w : World) : Prop where
  hr : HR μ h w
  keep : ∀ r o, G r = some o → w.heap[r]? = some o ∧ ¬ Alive μ h r
theorem Ok.step {G : Keep} {μ μ' : Mu} {h h' : Heap} {w w' : World} (k : Ok G μ h w) (s : Stp μ h w μ' h' w') : Ok G μ' h' w' :=
  ⟨s.hr, fun r o hr => by
    obtain ⟨a, b⟩ := k.keep r o hr
    have hlt := heap_lt a
    exact ⟨by rw [s.frame r hlt b]; exact a, fun al => b (s.img r hlt al)⟩⟩
theorem Ok.of_heap {G : Keep} {μ : Mu} {h : Heap} {w w' : World} (k : Ok G μ h w) (e : w'.heap = w.heap) : Ok G μ h w' := ⟨k.hr.of_heap e, fun r o hr => by rw [e]; exact k.keep r o hr⟩
/-- what a call comes to -/
def CallRes (P : Program) (f : FuncId) (args : Array Value) (μ : Mu) (h : Heap) (w : World) (v : AVal) (h' : Heap) : Prop :=
  (∃ v' w' μ', (callFunc f args).run P w = .ok (.value v') w' ∧ Stp μ h w μ' h' w' ∧ V μ' v v') ∨
  ((callFunc f args).run P w = .ok (.enter f args) w ∧ Calls P f args w fun e w' => ∃ v' μ', e = .returned v' ∧ Stp μ h w μ' h' w' ∧ V μ' v v')
def CallOK (P : Program) (G : Keep) (call : CallF) : Prop := ∀ f args h v h', call f args h = .ok v h' → ∀ μ w args', Ok G μ h w → VL μ args args'.toList → CallRes P f args' μ h w v h'
def IntrOK (P : Program) (G : Keep) (E : Env) : Prop := (∀ f args c, E.memo f args = some c → ∀ μ h w args' v h', memoA h c = .ok v h' → Ok G μ h w → VL μ args args'.toList → CallRes P f args' μ h w v h') ∧ ∀ f g args v, E.intr f = some g → g args = .ok v → ∀ μ h w args', Ok G μ h w → VL μ args args'.toList → CallRes P f args' μ h w v h

/-- the temporaries stand for what they hold -/
def TmOK (μ : Mu) (tm : Loc) (a : Act) : Prop := ∀ d x, tm.get d = some x → V μ x (a.tmps.getD d undef)

section
variable {P : Program} {E : Env} {μ : Mu} {h : Heap} {w : World} {tm : Loc} {a : Act}
theorem opnd_ok (ht : TmOK μ tm a) (x : Operand) : V μ (opnd x tm) (a.eval x) := by
  cases x with
  | tmp t =>
    show V μ (Option.rec (motive := fun _ => AVal) .bad (fun v => v) (tm.get t)) (a.tmps.getD t undef)
    cases e : tm.get t with
    | none => exact .bad _
    | some v => exact ht t v e
  | const v => exact toA_ok μ v
  | global g => exact .bad _
  | func f => exact .func f [] #[] .nil
theorem opnds_ok (ht : TmOK μ tm a) (xs : List Operand) : VL μ (opnds xs tm) (xs.map a.eval) := by
  induction xs with
  | nil => exact .nil
  | cons x xs ih => exact .cons _ _ _ _ (opnd_ok ht x) ih
theorem parts_ok (ht : TmOK μ tm a) (ps : List (Nat × Operand)) : PR μ (partsF ps tm) (ps.map fun p => (p.1, a.eval p.2)) := by
  induction ps with
  | nil => exact .nil
  | cons p ps ih => exact .cons _ _ _ _ _ (opnd_ok ht p.2) ih

/-- an operation that comes to a value -/
def OpRes (P : Program) (o : Oper) (a : Act) (μ : Mu) (h : Heap) (w : World) (v : AVal) (h' : Heap) : Prop :=
  ∀ (next : Act → World → Prop) (Q : Exit → Act → World → Prop), (∀ v' w' μ', Stp μ h w μ' h' w' → V μ' v v' → next (a.put o.dst v') w') → o.wp P a w next Q

theorem OpRes.value {o : Oper} {v : AVal} {h' : Heap} {v' : Value} {w' : World} {μ' : Mu} (hr : (execOp a.eval o).run P w = .ok (.value v') w') (hs : Stp μ h w μ' h' w') (hv : V μ' v v') : OpRes P o a μ h w v h' := by
  intro next Q k
  unfold Oper.wp
  rw [hr, Oper.upon_value]
  exact k v' w' μ' hs hv
theorem OpRes.skip {o : Oper} {h' : Heap} {w' : World} {μ' : Mu} (hr : (execOp a.eval o).run P w = .ok .skip w') (hs : Stp μ h w μ' h' w') : OpRes P o a μ h w undefA h' := by
  intro next Q k
  unfold Oper.wp
  rw [hr, Oper.upon_skip]
  exact k undef w' μ' hs (.tuple _ _ .nil)
theorem OpRes.of_res {o : Oper} {s : Sem Value} {v : AVal} {h' : Heap} (he : (execOp a.eval o).run P w = (do pure (Next.value (← s)) : Sem Next).run P w) (r : Res P s μ h w v h') : OpRes P o a μ h w v h' := by
  obtain ⟨v', w', μ', h1, h2, h3⟩ := r
  exact .value (by rw [he]; simp [h1]) h2 h3
theorem OpRes.of_gives {o : Oper} {s : Sem Value} {v : AVal} (he : (execOp a.eval o).run P w = (do pure (Next.value (← s)) : Sem Next).run P w) (hr : HR μ h w) (r : Gives P μ s v) : OpRes P o a μ h w v h := .of_res he (r.res hr)
theorem OpRes.of_resU {o : Oper} {s : Sem Unit} {h' : Heap} (he : (execOp a.eval o).run P w = (do s; pure Next.skip : Sem Next).run P w) (r : ResU P s μ h w h') : OpRes P o a μ h w undefA h' := by
  obtain ⟨w', μ', h1, h2⟩ := r
  exact .skip (by rw [he]; simp [h1]) h2
theorem r1_eq {r : R1} {h h' : Heap} {v : AVal} (e : r1 h r = .ok v h') : r = .ok v ∧ h' = h := by
  cases r with
  | no => simp at e
  | ok x => simp at e; exact ⟨by rw [e.1], e.2.symm⟩
end
end Go.Ev
namespace Go.Ev
set_option linter.unusedVariables false
set_option linter.unusedSimpArgs false
theorem onO_F {α : Type} {o : Option α} {k : α → F} {call : CallF} {tm : Loc} {h h' : Heap} {v : AVal} (e : onO o noF k call tm h = .ok v h') : ∃ x, o = some x ∧ k x call tm h = .ok v h' := by
  cases o with
  | none => simp [noF] at e
  | some x => exact ⟨x, rfl, e⟩
theorem onL_F {r : RL} {k : List AVal → F} {call : CallF} {tm : Loc} {h h' : Heap} {v : AVal} (e : r.on noF k call tm h = .ok v h') : ∃ x, r = .ok x ∧ k x call tm h = .ok v h' := by
  cases r with
  | no => simp [noF] at e
  | ok x => exact ⟨x, rfl, e⟩
theorem ifB_F {b : Bool} {f : F} {call : CallF} {tm : Loc} {h h' : Heap} {v : AVal} (e : ifB b f noF call tm h = .ok v h') : b = true ∧ f call tm h = .ok v h' := by
  cases b with
  | false => simp [noF] at e
  | true => exact ⟨rfl, e⟩

theorem opnds_on {μ : Mu} {tm : Loc} {a : Act} (xs : List Operand) (ht : ∀ x ∈ xs, V μ (opnd x tm) (a.eval x)) : VL μ (opnds xs tm) (xs.map a.eval) := by
  induction xs with
  | nil => exact .nil
  | cons x xs ih => exact .cons _ _ _ _ (ht x (by simp)) (ih fun y hy => ht y (by simp [hy]))
theorem parts_on {μ : Mu} {tm : Loc} {a : Act} (ps : List (Nat × Operand)) (ht : ∀ p ∈ ps, V μ (opnd p.2 tm) (a.eval p.2)) : PR μ (partsF ps tm) (ps.map fun p => (p.1, a.eval p.2)) := by
  induction ps with
  | nil => exact .nil
  | cons p ps ih => exact .cons _ _ _ _ _ (ht p (by simp)) (ih fun y hy => ht y (by simp [hy]))
section
variable {P : Program} {E : Env} (hE : EnvOK P E) (hP : PlainOK P E) {μ : Mu} {h h' : Heap} {w : World} {tm : Loc} {a : Act} {v : AVal} (hr : HR μ h w)
include hr

theorem mv_ok {o : Oper} {x : Operand} (hx : V μ (opnd x tm) (a.eval x)) (ho : o.op = .move x ∨ o.op = .assign x) (hf : R2.ok (opnd x tm) h = .ok v h') : OpRes P o a μ h w v h' := by
  obtain ⟨rfl, rfl⟩ := R2.ok_inj hf
  have he : (execOp a.eval o).run P w = .ok (.value (a.eval x)) w := by rcases ho with ho | ho <;> simp [execOp, ho]
  exact .value he (Stp.refl hr) hx

include hE hP
theorem op_simple {o : Oper} {call : CallF} (ht : ∀ x ∈ o.op.operands, V μ (opnd x tm) (a.eval x)) (hf : opF E o.op call tm h = .ok v h') (hn : ∀ c, o.op ≠ .call c) (hconv : ∀ s d x, o.op ≠ .convert s d x) : OpRes P o a μ h w v h' := by
  have R : ∀ {s : Sem Value}, (execOp a.eval o = do pure (Next.value (← s))) → Res P s μ h w v h' → OpRes P o a μ h w v h' := fun he r => .of_res (by rw [he]) r
  have G : ∀ {s : Sem Value} {r : R1}, (execOp a.eval o = do pure (Next.value (← s))) → r1 h r = .ok v h' → (r = .ok v → Gives P μ s v) → OpRes P o a μ h w v h' := fun he e g => by
    obtain ⟨e1, rfl⟩ := r1_eq e
    exact .of_gives (by rw [he]) hr (g e1)
  have L : ∀ {s : Sem Value} {r : R1}, (execOp a.eval o = do pure (Next.value (← s))) → r1 h r = .ok v h' → (r = .ok v → ∃ v', s.run P w = .ok v' w ∧ V μ v v') → OpRes P o a μ h w v h' := fun he e g => by
    obtain ⟨e1, rfl⟩ := r1_eq e
    obtain ⟨v', q1, q2⟩ := g e1
    exact .of_res (by rw [he]) ⟨v', w, μ, q1, Stp.refl hr, q2⟩
  have U : ∀ {s : Sem Unit}, (execOp a.eval o = do s; pure Next.skip) → (v = undefA ∧ ResU P s μ h w h') → OpRes P o a μ h w v h' := fun he r => by
    obtain ⟨rfl, r⟩ := r
    exact .of_resU (by rw [he]) r
  cases ho : o.op <;> rw [ho] at hf ht <;> try (simp only [opF, noF] at hf; simp at hf; done)
  case move x =>
    have OKx := ht x (by simp [Op.operands])
    exact mv_ok hr OKx (.inl ho) hf
  case assign x =>
    have OKx := ht x (by simp [Op.operands])
    exact mv_ok hr OKx (.inr ho) hf
  case pick c x y =>
    have OKc := ht c (by simp [Op.operands])
    have OKx := ht x (by simp [Op.operands])
    have OKy := ht y (by simp [Op.operands])
    exact G (s := do pure (if ← asBool (a.eval c) then a.eval x else a.eval y)) (by simp [execOp, ho]) hf fun e => pick_ok e OKc OKx OKy
  case alloc e =>
    obtain ⟨z, hz, hf⟩ := onL_F hf
    exact R (s := Instr.alloc e true (.tuple #[])) (by simp [execOp, ho]) (alloc_ok hE hr hz hf)
  case box e x =>
    have OKx := ht x (by simp [Op.operands])
    obtain ⟨l, hl, hf⟩ := RL.on_eq hf (by simp)
    exact R (s := Instr.box e (a.eval x)) (by simp [execOp, ho]) (box_ok hr hl hf OKx)
  case build t ps =>
    obtain ⟨pl, hpl, hf⟩ := onO_F hf
    obtain ⟨z, hz, hf⟩ := onL_F hf
    refine G (s := Instr.build t (ps.map fun (i, x) => (i, a.eval x))) (by simp [execOp, ho]) hf fun e => build_ok hE hpl hz e ?_
    have := parts_on ps.toList fun p hp => ht p.2 (by simp [Op.operands]; exact ⟨p.1, Array.mem_def.2 (by simpa using hp)⟩)
    simpa using this
  case buildSlice t len ps =>
    obtain ⟨e, he, hf⟩ := onO_F hf
    obtain ⟨z, hz, hf⟩ := onL_F hf
    obtain ⟨h1, hf⟩ := ifB_F hf
    rw [Bool.and_eq_true, ble_true, beq_true] at h1
    refine R (s := Instr.buildSlice t len (ps.map fun (i, x) => (i, a.eval x))) (by simp [execOp, ho]) (buildSlice_ok hE hr (t := t) (e := e.1) (ag := e.2.1) (sz := e.2.2) he hz h1.2 h1.1 hf ?_)
    have := parts_on ps.toList fun p hp => ht p.2 (by simp [Op.operands]; exact ⟨p.1, Array.mem_def.2 (by simpa using hp)⟩)
    simpa using this
  case insert t m k x =>
    have OKm := ht m (by simp [Op.operands])
    have OKk := ht k (by simp [Op.operands])
    have OKx := ht x (by simp [Op.operands])
    obtain ⟨mt, hmt, hf⟩ := onO_F hf
    obtain ⟨hk, hf⟩ := ifB_eq hf (by simp)
    exact U (s := Instr.mapUpdate t (a.eval m) (a.eval k) (a.eval x)) (by simp [execOp, ho]) (mapUpdate_ok hE hP hr hmt hk hf OKm OKk OKx)
  case load t x =>
    have OKx := ht x (by simp [Op.operands])
    obtain ⟨ti, hti, hf⟩ := onO_F hf
    exact L (s := Instr.loadAt t (a.eval x)) (by simp [execOp, ho]) hf fun e => load_ok hE hr hti e OKx
  case store t x y =>
    have OKx := ht x (by simp [Op.operands])
    have OKy := ht y (by simp [Op.operands])
    obtain ⟨ti, hti, hf⟩ := onO_F hf
    exact U (s := Instr.storeAt t (a.eval x) (a.eval y)) (by simp [execOp, ho]) (store_ok hE hr hti hf OKx OKy)
  case nilCheck x =>
    have OKx := ht x (by simp [Op.operands])
    obtain ⟨e1, rfl⟩ := r1_eq (show r1 h (nilCheckA (opnd x tm)) = .ok v h' from hf)
    obtain ⟨rfl, h1⟩ := nilCheck_ok e1 OKx
    refine .value (v' := a.eval x) ?_ (Stp.refl hr) OKx
    rcases h1 with ⟨b, h1⟩ | ⟨f, c, h1⟩ <;> simp [execOp, ho, h1]
  case binOp op t x y _ =>
    have OKx := ht x (by simp [Op.operands])
    have OKy := ht y (by simp [Op.operands])
    exact G (s := do eqGuard op t x y (a.eval x) (a.eval y); binOp op t (a.eval x) (a.eval y)) (by simp [execOp, ho]) (show r1 h (binA E t op (opnd x tm) (opnd y tm)) = .ok v h' from hf) fun e => bin_ok hE hP e OKx OKy x y
  case unOp op _ x =>
    have OKx := ht x (by simp [Op.operands])
    exact G (s := Op.unary op (a.eval x)) (by simp [execOp, ho]) (show r1 h (unA op (opnd x tm)) = .ok v h' from hf) fun e => un_ok e OKx
  case convert s d x => exact absurd ho (hconv s d x)
  case makeInterface t x =>
    have OKx := ht x (by simp [Op.operands])
    obtain ⟨ti, hti, hf⟩ := onO_F hf
    have hinv : und E t ≠ .invalid := fun e => by simp only [tyO, e] at hti; split at hti <;> simp at hti
    cases hd : und E t <;> rw [hd] at hf <;> simp only [noF] at hf <;> try (simp at hf; done)
    case invalid => exact absurd hd hinv
    all_goals
      obtain ⟨rfl, rfl⟩ := R2.ok_inj hf
      exact .value (v' := .iface t (a.eval x)) (by simp [execOp, ho, Instr.makeInterface, run_underlying (und_ok hE hd (by simp))]) (Stp.refl hr) (.iface t _ _ OKx)
  case makeFunc fn first cap =>
    cases fn <;> simp only [opF, noF] at hf <;> try (simp at hf; done)
    rename_i f
    obtain ⟨h1, hf⟩ := ifB_F hf
    obtain ⟨rfl, rfl⟩ := R2.ok_inj hf
    have hfirst : first = #[] := by
      have : first.toList = [] := List.isEmpty_iff.1 h1
      exact Array.toList_eq_nil_iff.1 this
    refine .value (v' := .func (.func f) #[] (cap.map a.eval)) ?_ (Stp.refl hr) (.func f _ _ ?_)
    · simp [execOp, ho, Instr.makeFunc, hfirst]
    · have := opnds_on cap.toList fun x hx => ht x (by simp [Op.operands]; exact .inr (by simpa using hx))
      simpa using this
  case makeMap t r =>
    cases r with
    | none => exact R (s := Instr.makeMap t none) (by simp [execOp, ho]) (makeMap_ok hr hf)
    | some x =>
      have OKx := ht x (by simp [Op.operands])
      simp only [opF, onO_some] at hf
      cases hd : und E t <;> rw [hd] at hf <;> simp only [noF] at hf <;> try (simp at hf; done)
      obtain ⟨h1, hf⟩ := ifB_eq hf (by simp)
      refine R (s := Instr.makeMap t (some (a.eval x))) (by simp [execOp, ho]) ?_
      have h2 := makeMap_ok (P := P) (t := t) hr hf
      generalize a.eval x = y at OKx ⊢
      cases hx : opnd x tm <;> rw [hx] at h1 OKx <;> simp [isInt] at h1
      cases OKx
      obtain ⟨v', w', μ', q1, q2, q3⟩ := h2
      refine ⟨v', w', μ', ?_, q2, q3⟩
      simpa [Instr.makeMap, run_underlying (und_ok hE hd (by simp)), asInt, asIntOf] using q1
  case makeSlice t l c =>
    have OKl := ht l (by simp [Op.operands])
    have OKc := ht c (by simp [Op.operands])
    obtain ⟨e, he, hf⟩ := onO_F hf
    obtain ⟨z, hz, hf⟩ := onL_F hf
    obtain ⟨h1, hf⟩ := ifB_F hf
    rw [Bool.and_eq_true, ble_true, beq_true] at h1
    exact R (s := Instr.makeSlice t (a.eval l) (a.eval c)) (by simp [execOp, ho]) (makeSlice_ok hE hr (t := t) (e := e.1) (ag := e.2.1) (sz := e.2.2) he hz h1.2 h1.1 hf OKl OKc)
  case slice t x lo hi mx =>
    obtain ⟨h1, hf⟩ := ifB_F hf
    exact G (s := Instr.sliceAt t (a.eval x) (lo.map a.eval) (hi.map a.eval) (mx.map a.eval)) (by simp [execOp, ho]) hf fun e => slice_ok hE e (ht x (by simp [Op.operands])) (fun y hy => ht y (by simp [Op.operands, hy])) (fun y hy => ht y (by simp [Op.operands, hy])) (fun y hy => ht y (by simp [Op.operands, hy])) h1
  case fieldAddr s x f =>
    have OKx := ht x (by simp [Op.operands])
    obtain ⟨fd, hfd, hf⟩ := onO_F hf
    obtain ⟨ti, hti, hf⟩ := onO_F hf
    cases hz : Nat.beq ti.2 0 with
    | true => rw [hz] at hf; simp [noF] at hf
    | false =>
      rw [hz] at hf
      exact G (s := Instr.fieldAt s (a.eval x) f) (by simp [execOp, ho]) (show r1 h (onPtr (opnd x tm) .no fun b o => forceN (Nat.add o fd.offset) fun o => .ok (.ptr b o)) = .ok v h' from hf) fun e => fieldAddr_ok hE hfd hti hz e OKx
  case field s x f =>
    have OKx := ht x (by simp [Op.operands])
    obtain ⟨fd, hfd, hf⟩ := onO_F hf
    obtain ⟨ti, hti, hf⟩ := onO_F hf
    exact G (s := Instr.field s (a.eval x) f) (by simp [execOp, ho]) (show r1 h (match opnd x tm with | .agg cs => partA ti.1 ti.2 cs fd.offset | _ => .no) = .ok v h' from hf) fun e => field_ok hE hfd hti e OKx
  case indexAddr t x i =>
    have OKx := ht x (by simp [Op.operands])
    have OKi := ht i (by simp [Op.operands])
    exact G (s := Instr.indexAt t (a.eval x) (a.eval i)) (by simp [execOp, ho]) (show r1 h (indexAddrA E t (opnd x tm) (opnd i tm)) = .ok v h' from hf) fun e => indexAddr_ok hE e OKx OKi
  case index t x i =>
    have OKx := ht x (by simp [Op.operands])
    have OKi := ht i (by simp [Op.operands])
    exact G (s := Instr.index t (a.eval x) (a.eval i)) (by simp [execOp, ho]) (show r1 h (indexA E t (opnd x tm) (opnd i tm)) = .ok v h' from hf) fun e => index_ok hE e OKx OKi
  case lookup t x k ok =>
    have OKx := ht x (by simp [Op.operands])
    have OKk := ht k (by simp [Op.operands])
    obtain ⟨mt, hmt, hf⟩ := onO_F hf
    obtain ⟨hk, hf⟩ := ifB_eq hf (by simp)
    exact L (s := Instr.lookup t (a.eval x) (a.eval k) ok) (by simp [execOp, ho]) hf fun e => lookup_ok hE hP hr hmt hk e OKx OKk
  case mapUpdate t m k x =>
    have OKm := ht m (by simp [Op.operands])
    have OKk := ht k (by simp [Op.operands])
    have OKx := ht x (by simp [Op.operands])
    obtain ⟨mt, hmt, hf⟩ := onO_F hf
    obtain ⟨hk, hf⟩ := ifB_eq hf (by simp)
    exact U (s := Instr.mapUpdate t (a.eval m) (a.eval k) (a.eval x)) (by simp [execOp, ho]) (mapUpdate_ok hE hP hr hmt hk hf OKm OKk OKx)
  case mapEntry t m k =>
    have OKm := ht m (by simp [Op.operands])
    have OKk := ht k (by simp [Op.operands])
    obtain ⟨mt, hmt, hf⟩ := onO_F hf
    obtain ⟨hk, hf⟩ := ifB_eq hf (by simp)
    exact R (s := Instr.mapEntry t (a.eval m) (a.eval k)) (by simp [execOp, ho]) (mapEntry_ok hE hP hr hmt hk hf OKm OKk)
  case entryStore t m s x =>
    have OKm := ht m (by simp [Op.operands])
    have OKs := ht s (by simp [Op.operands])
    have OKx := ht x (by simp [Op.operands])
    exact U (s := Instr.entryStore t (a.eval m) (a.eval s) (a.eval x)) (by simp [execOp, ho]) (entryStore_ok hr hf OKm OKs OKx)
  case range t x =>
    have OKx := ht x (by simp [Op.operands])
    obtain ⟨h1, hf⟩ := ifB_F hf
    have hd : und E t = .string := by
      simp only [isStr] at h1
      split at h1
      · assumption
      · simp at h1
    exact R (s := Instr.range t (a.eval x)) (by simp [execOp, ho]) (range_ok hE hr hd hf OKx)
  case next it isS =>
    have OKit := ht it (by simp [Op.operands])
    obtain ⟨h1, hf⟩ := ifB_F hf
    subst h1
    exact R (s := Instr.next (a.eval it) true o.type) (by simp [execOp, ho]) (next_ok hr hf OKit)
  case extract t i =>
    have OKt := ht t (by simp [Op.operands])
    exact G (s := Instr.extract (a.eval t) i) (by simp [execOp, ho]) (show r1 h (extractA (opnd t tm) i) = .ok v h' from hf) fun e => extract_ok e OKt
  case call c => exact absurd ho (hn c)
end
end Go.Ev
namespace Go.Ev
set_option linter.unusedVariables false
set_option linter.unusedSimpArgs false
section
variable {P : Program} {E : Env} {G : Keep} (hE : EnvOK P E) {μ : Mu} {h h' : Heap} {w : World} {tm : Loc} {a : Act} {v : AVal} (hr : HR μ h w)
include hE hr

omit hr in
theorem byteT {e : TypeId} (hb : isByteT E e = true) : P.underlying e = some (.int .u8) := by
  simp only [isByteT] at hb
  split at hb
  · rename_i h1; exact und_ok hE h1 (by simp)
  · simp at hb
theorem convert_ok {s d : TypeId} {c : CK} {x : AVal} {x' : Value} (hc : convK E s d = some c) (hv : convA c h x = .ok v h') (hx : V μ x x') : Res P (convert s d x') μ h w v h' := by
  by_cases hp : (∃ k, c = .int k) ∨ c = .istr ∨ c = .f64 ∨ c = .sstr
  · obtain ⟨rfl, g⟩ := conv_pure (P := P) hE hc hv hx hp
    exact g.res hr
  unfold convK at hc
  split at hc
  case h_1 k0 hs =>
    split at hc <;> first | (simp at hc; done) | (cases hc; simp at hp)
  case h_2 hs =>
    have us := und_ok hE hs (by simp)
    split at hc
    · cases hc; simp at hp
    · rename_i e hd
      obtain ⟨hb, hc⟩ := ifB_eq hc (by simp)
      cases hc
      have ud := und_ok hE hd (by simp)
      have ub := byteT hE hb
      cases x <;> simp only [convA] at hv <;> try (simp at hv; done)
      obtain ⟨s', rfl, rfl, rfl⟩ := strV hx
      obtain ⟨v', w', μ', q1, q2, q3⟩ := bytes_ok (P := P) hr (e := e) (v := v) (h' := h') (by simpa only [convA] using hv) hx
      exact ⟨v', w', μ', by simpa only [convert, Sem.run_bind, run_underlying us, run_underlying ud, run_underlying ub, Result.andThen_ok] using q1, q2, q3⟩
    · simp at hc
  case h_3 e hs =>
    have us := und_ok hE hs (by simp)
    split at hc
    · rename_i hd
      obtain ⟨hb, hc⟩ := ifB_eq hc (by simp)
      cases hc
      have ud := und_ok hE hd (by simp)
      have ub := byteT hE hb
      obtain ⟨v', w', μ', q1, q2, q3⟩ := bstr_ok (P := P) hr hv hx
      refine ⟨v', w', μ', ?_, q2, q3⟩
      cases x <;> simp only [convA] at hv <;> try (simp at hv; done)
      all_goals cases hx <;> simpa only [convert, Sem.run_bind, run_underlying us, run_underlying ud, run_underlying ub, Result.andThen_ok] using q1
    · simp at hc
  case h_4 t hs =>
    have us := und_ok hE hs (by simp)
    split at hc
    · rename_i hd
      obtain ⟨hb, hc⟩ := ifB_eq hc (by simp)
      cases hc
      have ud := und_ok hE hd (by simp)
      simp only [sized] at hb
      obtain ⟨ti, hti, hb⟩ := onO_eq hb (by simp)
      obtain ⟨v', w', μ', q1, q2, q3⟩ := toU_ok (P := P) hr us ud (fun w => run_sizeOf_ok hE (ag := ti.1) hti w) (ble_true.1 hb) hv hx
      refine ⟨v', w', μ', ?_, q2, q3⟩
      cases x <;> simp only [convA] at hv <;> try (simp at hv; done)
      all_goals cases hx <;> simpa only [convert, Sem.run_bind, run_underlying us, run_underlying ud, Result.andThen_ok] using q1
    · simp at hc
  case h_5 hs =>
    have us := und_ok hE hs (by simp)
    split at hc
    · rename_i u hd
      obtain ⟨ti, hti, hc⟩ := onO_eq hc (by simp)
      obtain ⟨hb, hc⟩ := ifB_eq hc (by simp)
      cases hc
      have ud := und_ok hE hd (by simp)
      obtain ⟨v', w', μ', q1, q2, q3⟩ := fromU_ok (P := P) hr hE us ud hti (ble_true.1 hb) hv hx
      refine ⟨v', w', μ', ?_, q2, q3⟩
      cases x <;> simp only [convA] at hv <;> try (simp at hv; done)
      all_goals cases hx <;> simpa only [convert, Sem.run_bind, run_underlying us, run_underlying ud, Result.andThen_ok] using q1
    · simp at hc
  case h_6 => simp at hc

omit hr in
theorem nomake {ts : Array TypeId} {st : TypeId} {r : List TypeId} (hts : ts.toList = st :: r) (h : argOk E .append r = true) : NoMake P ts := by
  have e1 : ts[1]? = r[0]? := by rw [← Array.getElem?_toList, hts]; rfl
  cases r with
  | nil => exact .inl (by rw [e1]; rfl)
  | cons u r =>
    right
    simp only [argOk] at h
    split at h
    · rename_i e hd; exact ⟨u, .slice e, by rw [e1]; rfl, und_ok hE hd (by simp), by simp⟩
    · rename_i hd; exact ⟨u, .string, by rw [e1]; rfl, und_ok hE hd (by simp), by simp⟩
    · simp at h
theorem bi1_ok {b : Builtin} {ts : Array TypeId} {st ty : TypeId} {r : List TypeId} {cs : Array Bool} {x : AVal} {x' : Value} (hts : ts.toList = st :: r) (hf : bi1 E b st h x = .ok v h') (hx : V μ x x') :
    ∃ s : Sem Value, builtin b ts ty cs #[x'] = (do pure (Next.value (← s))) ∧ Res P s μ h w v h' := by
  have h0 : ts[0]? = some st := by rw [← Array.getElem?_toList, hts]; rfl
  cases b <;> simp only [bi1] at hf <;> try (simp at hf; done)
  case len =>
    obtain ⟨e1, rfl⟩ := r1_eq hf
    obtain ⟨v', q1, q2⟩ := len_ok (P := P) (ty := ty) hE hr h0 e1 hx
    exact ⟨_, rfl, v', w, μ, q1, Stp.refl hr, q2⟩
  case cap =>
    cases he : sliceElem E st with
    | none => rw [he] at hf; simp at hf
    | some e =>
      rw [he, onO_some] at hf
      obtain ⟨e1, rfl⟩ := r1_eq hf
      exact ⟨_, rfl, (cap_ok (P := P) (ty := ty) hE h0 he e1 hx).res hr⟩
  case real =>
    cases x <;> simp only [reduceCtorEq] at hf
    obtain ⟨rfl, rfl⟩ := R2.ok_inj hf
    cases hx
    exact ⟨_, rfl, _, w, μ, rfl, Stp.refl hr, .float _⟩
  case unsafeSliceData =>
    obtain ⟨e1, rfl⟩ := r1_eq hf
    exact ⟨_, rfl, (ssData_ok (P := P) (ty := ty) e1 hx).res hr⟩
  case clear =>
    cases he : elemO E st with
    | none => rw [he] at hf; simp at hf
    | some e =>
      rw [he, onO_some] at hf
      cases hz : cells0 E e.1 with
      | no => rw [hz] at hf; simp at hf
      | ok z =>
        rw [hz, RL.on_ok] at hf
        cases hb : Nat.beq z.length e.2.2 with
        | false => rw [hb] at hf; simp at hf
        | true =>
          rw [hb, ifB_true] at hf
          obtain ⟨e1, e2, e3⟩ := e
          exact ⟨_, rfl, clear_ok (P := P) (ty := ty) hE hr h0 he hz hf hx⟩
theorem bi2_ok {b : Builtin} {ts : Array TypeId} {st ty : TypeId} {r : List TypeId} {cs : Array Bool} {x y : AVal} {x' y' : Value} (hts : ts.toList = st :: r) (hr0 : argOk E b r = true) (hf : bi2 E b st h x y = .ok v h') (hx : V μ x x') (hy : V μ y y') :
    ∃ s : Sem Value, builtin b ts ty cs #[x', y'] = (do pure (Next.value (← s))) ∧ Res P s μ h w v h' := by
  have h0 : ts[0]? = some st := by rw [← Array.getElem?_toList, hts]; rfl
  cases b <;> simp only [bi2] at hf <;> try (simp at hf; done)
  case append =>
    cases he : elemO E st with
    | none => rw [he] at hf; simp at hf
    | some e =>
      rw [he, onO_some] at hf
      cases hz : cells0 E e.1 with
      | no => rw [hz] at hf; simp at hf
      | ok z =>
        rw [hz, RL.on_ok] at hf
        cases hb : Nat.beq z.length e.2.2 with
        | false => rw [hb] at hf; simp at hf
        | true =>
          rw [hb, ifB_true] at hf
          obtain ⟨e1, e2, e3⟩ := e
          exact ⟨_, rfl, append_ok (P := P) (ty := ty) hE hr h0 (nomake hE hts hr0) he hz (beq_true.1 hb) hf hx hy⟩
  case copy =>
    cases he : elemO E st with
    | none => rw [he] at hf; simp at hf
    | some e =>
      rw [he, onO_some] at hf
      obtain ⟨e1, e2, e3⟩ := e
      exact ⟨_, rfl, copy_ok (P := P) (ty := ty) hE hr h0 he hf hx hy⟩
  case max =>
    obtain ⟨e1, rfl⟩ := r1_eq hf
    exact ⟨_, rfl, (max_ok (P := P) (ts := ts) (ty := ty) e1 hx hy).res hr⟩
  case min =>
    obtain ⟨e1, rfl⟩ := r1_eq hf
    exact ⟨_, rfl, (max_ok (P := P) (ts := ts) (ty := ty) e1 hx hy).res hr⟩
  case complex =>
    cases x <;> simp only [reduceCtorEq] at hf
    cases y <;> simp only [reduceCtorEq] at hf
    obtain ⟨rfl, rfl⟩ := R2.ok_inj hf
    cases hx; cases hy
    exact ⟨_, rfl, _, w, μ, rfl, Stp.refl hr, .cplx _ _⟩
  case unsafeString =>
    cases he : ptrElem E st with
    | none => rw [he] at hf; simp at hf
    | some e =>
      rw [he, onO_some] at hf
      rcases r with _ | ⟨it, _ | ⟨_, _⟩⟩ <;> try (simp [argOk] at hr0; done)
      have hts2 : ts = #[st, it] := by apply Array.toList_inj.1; rw [hts]
      exact ⟨_, rfl, unsafeString_ok (P := P) (ty := ty) hr hE hts2 he hf hx hy⟩

theorem call_ok {call : CallF} (hok : Ok G μ h w) (hc : CallOK P G call) (hi : IntrOK P G E) {o : Oper} {c : Call} (ho : o.op = .call c) (ht : ∀ x ∈ c.operands, V μ (opnd x tm) (a.eval x)) (hf : callF E c call tm h = .ok v h') : OpRes P o a μ h w v h' := by
  have hex : execOp a.eval o = (do let d ← resolve a.eval c o.type; invoke d.target d.args) := by simp [execOp, ho]
  simp only [callF] at hf
  cases hcal : c.callee <;> rw [hcal] at hf <;> simp only [] at hf
  · rename_i f
    simp only [callA] at hf
    have hfo : V μ (opnd f tm) (a.eval f) := ht f (by simp [Call.operands, hcal])
    have hargs : VL μ (opnds c.args.toList tm) (c.args.toList.map a.eval) := opnds_on _ fun x hx => ht x (by simp [Call.operands]; exact .inr (by simpa using hx))
    split at hf
    · rename_i fid cap hfe
      rw [hfe] at hfo
      generalize hy : a.eval f = y at hfo
      cases hfo with
      | func _ _ arr hl =>
        have hres : resolve a.eval c o.type = pure { target := .fn (.func fid) arr, args := #[] ++ c.args.map a.eval } := by
          simp [resolve, hcal, hy, Deferred.ofValue]
        have hrun : execOp a.eval o = callFunc fid (c.args.map a.eval ++ arr) := by
          rw [hex, hres]; simp [invoke]
        have hcr : CallRes P fid (c.args.map a.eval ++ arr) μ h w v h' := by
          have hv : VL μ (opnds c.args.toList tm ++ cap) (c.args.map a.eval ++ arr).toList := by simpa using hargs.append hl
          cases hin : E.intr fid with
          | none =>
            rw [hin, onO_none] at hf
            cases hme : E.memo fid (opnds c.args.toList tm ++ cap) with
            | none => rw [hme, onO_none] at hf; exact hc fid _ h v h' hf μ w _ hok hv
            | some ct => rw [hme, onO_some] at hf; exact hi.1 fid _ ct hme μ h w _ v h' hf hok hv
          | some g =>
            rw [hin, onO_some] at hf
            obtain ⟨e1, rfl⟩ := r1_eq hf
            exact hi.2 fid g _ v hin e1 μ _ w _ hok hv
        intro next Q k
        unfold Oper.wp
        rw [hrun]
        rcases hcr with ⟨v', w', μ', q1, q2, q3⟩ | ⟨q0, q1⟩
        · rw [q1, Oper.upon_value]; exact k v' w' μ' q2 q3
        · rw [q0, Oper.upon_enter]
          refine Calls.mono q1 fun e w'' he => ?_
          obtain ⟨v', μ', rfl, q2, q3⟩ := he
          exact k v' w'' μ' q2 q3
    · simp at hf
  · simp at hf
  · rename_i b
    generalize hts : c.argTypes.toList = ts at hf
    cases ts with
    | nil => simp [builtinF, noF] at hf
    | cons st r =>
      simp only [builtinF] at hf
      obtain ⟨ha, hf⟩ := ifB_F hf
      have hres : ∃ cs, execOp a.eval o = builtin b c.argTypes o.type cs (c.args.map a.eval) := by
        apply Exists.intro
        rw [hex]
        simp only [resolve, hcal, invoke, pure_bind]
        rfl
      obtain ⟨cs, hres⟩ := hres
      generalize hx : c.args.toList = xs at hf
      rcases xs with _ | ⟨x, _ | ⟨y, _ | ⟨z, xs⟩⟩⟩
      · simp [noF] at hf
      · have hxv := ht x (by simp [Call.operands]; exact .inr (Array.mem_def.2 (by rw [hx]; simp)))
        obtain ⟨s, q0, q1⟩ := bi1_ok (P := P) (w := w) (ty := o.type) (cs := cs) hE hr hts hf hxv
        have hm : c.args.map a.eval = #[a.eval x] := by apply Array.toList_inj.1; simp [hx]
        exact .of_res (by rw [hres, hm, q0]) q1
      · have hxv := ht x (by simp [Call.operands]; exact .inr (Array.mem_def.2 (by rw [hx]; simp)))
        have hyv := ht y (by simp [Call.operands]; exact .inr (Array.mem_def.2 (by rw [hx]; simp)))
        obtain ⟨s, q0, q1⟩ := bi2_ok (P := P) (w := w) (ty := o.type) (cs := cs) hE hr hts ha hf hxv hyv
        have hm : c.args.map a.eval = #[a.eval x, a.eval y] := by apply Array.toList_inj.1; simp [hx]
        exact .of_res (by rw [hres, hm, q0]) q1
      · simp [noF] at hf
end

/-- each operation -/
theorem op_ok {P : Program} {E : Env} {G : Keep} (hE : EnvOK P E) (hP : PlainOK P E) {call : CallF} (hc : CallOK P G call) (hi : IntrOK P G E) {μ : Mu} {h h' : Heap} {w : World} {tm : Loc} {a : Act} {v : AVal} (hok : Ok G μ h w)
    {o : Oper} (ht : ∀ x ∈ o.op.operands, V μ (opnd x tm) (a.eval x)) (hf : opF E o.op call tm h = .ok v h') : OpRes P o a μ h w v h' := by
  have hr := hok.hr
  by_cases h1 : ∃ c, o.op = .call c
  · obtain ⟨c, ho⟩ := h1
    rw [ho] at hf ht
    exact call_ok hE hr hok hc hi ho (by simpa [Op.operands] using ht) hf
  · by_cases h2 : ∃ s d x, o.op = .convert s d x
    · obtain ⟨s, d, x, ho⟩ := h2
      rw [ho] at hf ht
      obtain ⟨c, hck, hf⟩ := onO_F hf
      exact .of_res (s := convert s d (a.eval x)) (by simp [execOp, ho]) (convert_ok hE hr hck hf (ht x (by simp [Op.operands])))
    · exact op_simple hE hP hr ht hf (fun c e => h1 ⟨c, e⟩) fun s d x e => h2 ⟨s, d, x, e⟩
end Go.Ev
namespace Go.Ev
set_option linter.unusedVariables false
set_option linter.unusedSimpArgs false

/-- what is told of a frame between two operations -/
def Sized (N : Nat) (a : Act) : Prop := a.tmps.size = N
theorem Sized.put {N : Nat} {a : Act} (h : Sized N a) (d : Option Tmp) (v : Value) : Sized N (a.put d v) := by
  cases d with
  | none => exact h
  | some d => simpa [Sized, Act.put] using h
theorem put_defers (a : Act) (d : Option Tmp) (v : Value) : (a.put d v).defers = a.defers := by cases d <;> rfl
theorem Loc.get_put (d t : Nat) (v : AVal) (l : Loc) : (Loc.put d v l).get t = if t = d then some v else l.get t := by
  show (Bool.rec (motive := fun _ => Option AVal) (l.get t) (some v) (Nat.beq d t) : Option AVal) = _
  by_cases h : t = d
  · subst h; rw [Nat.beq_refl]; simp
  · have : Nat.beq d t = false := by
      cases e : Nat.beq d t with
      | false => rfl
      | true => exact absurd (Nat.eq_of_beq_eq_true e).symm h
    rw [this, if_neg h]
theorem getD_put {a : Act} {d t : Nat} {v : Value} (hd : d < a.tmps.size) : (a.put (some d) v).tmps.getD t undef = if t = d then v else a.tmps.getD t undef := by
  by_cases h : t = d
  · subst h; simp [Act.put, hd]
  · simp [Act.put, h, Array.getElem?_setIfInBounds_ne (Ne.symm h)]
theorem TmOK.putO {μ : Mu} {tm : Loc} {a : Act} {v : AVal} {v' : Value} {d : Option Tmp} (ht : TmOK μ tm a) (hd : ∀ t, d = some t → t < a.tmps.size) (hv : V μ v v') : TmOK μ (putO d v tm) (a.put d v') := by
  cases d with
  | none => exact ht
  | some d =>
    intro t x hx
    have hx' : (Loc.put d v tm).get t = some x := hx
    rw [Loc.get_put] at hx'
    rw [getD_put (hd d rfl)]
    by_cases h : t = d
    · rw [if_pos h] at hx' ⊢; cases hx'; exact hv
    · rw [if_neg h] at hx' ⊢; exact ht t x hx'
theorem TmOK.mono {μ μ' : Mu} {tm : Loc} {a : Act} (he : Ext μ μ') (ht : TmOK μ tm a) : TmOK μ' tm a := fun d x hx => (ht d x hx).mono he
theorem undefA_ok (μ : Mu) : V μ undefA undef := .tuple _ _ .nil

/-- what a guard says -/
theorem guard_ok {μ : Mu} {tm : Loc} {a : Act} {ops : Array Oper} {o : Oper} {b : Bool} (ht : ∀ g o' t, o.guard = some g → ops[g.1]? = some o' → o'.dst = some t → ∀ x, tm.get t = some x → V μ x (a.tmps.getD t undef)) (h : gdO ops.toList o tm = some b) :
    Region.wanted o (yielded ops a.tmps) = b := by
  unfold gdO at h
  unfold Region.wanted
  cases hg : o.guard with
  | none => rw [hg] at h; simp at h; simp [h]
  | some g =>
    rw [hg] at h
    simp only [onO_some, gdF] at h
    cases ho : ops.toList[g.1]? with
    | none => rw [ho] at h; simp at h
    | some o' =>
      rw [ho] at h
      simp only [onO_some] at h
      cases hd : o'.dst with
      | none => rw [hd] at h; simp at h
      | some t =>
        rw [hd] at h
        simp only [onO_some] at h
        have ho' : ops[g.1]? = some o' := by rw [← Array.getElem?_toList]; exact ho
        cases hx : tm.get t with
        | none => rw [hx] at h; simp [isB] at h
        | some x =>
          have hv := ht g o' t hg ho' hd x hx
          rw [hx] at h
          obtain ⟨gi, want⟩ := g
          cases x <;> simp only [isB] at h <;> try (simp at h; done)
          · rename_i c
            generalize hy : a.tmps.getD t undef = y at hv
            cases hv
            have hlt : a.tmps[t]? = some (.bool c) := by
              cases he : a.tmps[t]? with
              | none => simp [he, undef] at hy
              | some z => simp [he] at hy; rw [hy]
            have hyl : yielded ops a.tmps gi = some c := by simp [yielded, ho', hd, hlt]
            simp only [hyl]
            simp only [Option.some.injEq] at h
            subst h
            cases want <;> cases c <;> rfl
          · rename_i l
            generalize hy : a.tmps.getD t undef = y at hv
            cases hv with
            | tuple _ arr _ =>
            have hyl : yielded ops a.tmps gi = none := by
              cases he : a.tmps[t]? with
              | none => simp [yielded, ho', hd, he]
              | some z => simp [he] at hy; simp [yielded, ho', hd, he, hy]
            simp only [hyl]
            simp at h; subst h; rfl

section
variable {P : Program} {E : Env} {G : Keep} (hE : EnvOK P E) (hP : PlainOK P E) {call : CallF} (hc : CallOK P G call) (hi : IntrOK P G E)
include hE hP hc hi

theorem opsF_ok {ops : Array Oper} {Q : Exit → Act → World → Prop} {N : Nat} (hN : ∀ o ∈ ops.toList, ∀ d, o.dst = some d → d < N) : ∀ (l pre : List Oper), ops.toList = pre ++ l → ∀ {μ : Mu} {h h' : Heap} {w : World} {tm tm' : Loc} {a : Act},
    Ok G μ h w → TmOK μ tm a → Sized N a → opsF E ops.toList l call tm h = .ok tm' h' →
    (∀ a' w' μ', Stp μ h w μ' h' w' → TmOK μ' tm' a' → Sized N a' → a'.defers = a.defers → Q .normal a' w') →
    wpOps P ops Q (List.range' pre.length l.length) a w := by
  intro l
  induction l with
  | nil =>
    intro pre _ μ h h' w tm tm' a hr ht hs hf k
    have hf' : RS.ok tm h = .ok tm' h' := hf
    cases hf'
    exact k a w μ (Stp.refl hr.hr) ht hs rfl
  | cons o l ih =>
    intro pre hpre μ h h' w tm tm' a hr ht hs hf k
    have hpo : ops[pre.length]? = some o := by rw [← Array.getElem?_toList, hpre]; simp
    have hmem : o ∈ ops.toList := by rw [hpre]; simp
    have hdst : ∀ d, o.dst = some d → d < a.tmps.size := fun d hd => by rw [hs]; exact hN o hmem d hd
    have hf1 : stepF ops.toList o (opF E o.op) (opsF E ops.toList l) call tm h = .ok tm' h' := hf
    have NEXT : ∀ {v : AVal} {h1 : Heap} (v' : Value) (w' : World) (μ' : Mu), Stp μ h w μ' h1 w' → V μ' v v' → opsF E ops.toList l call (putO o.dst v tm) h1 = .ok tm' h' → wpOps P ops Q (List.range' (pre.length + 1) l.length) (a.put o.dst v') w' := fun {v h1} v' w' μ' s1 hv hf2 => by
      have := ih (pre ++ [o]) (by rw [hpre]; simp) (hr.step s1) ((ht.mono s1.ext).putO hdst hv) (hs.put _ _) hf2 (fun a' w'' μ'' s2 t2 z2 d2 => k a' w'' μ'' (s1.trans s2) t2 z2 (by rw [d2, put_defers]))
      simpa using this
    have THEN : thenF (opF E o.op) o.dst (opsF E ops.toList l) call tm h = .ok tm' h' → o.wp P a w (wpOps P ops Q (List.range' (pre.length + 1) l.length)) Q := fun hf2 => by
      cases hop : opF E o.op call tm h with
      | no => cases hd : o.dst <;> simp [thenF, hd, hop, onO] at hf2
      | ok v h1 =>
        have hf3 : opsF E ops.toList l call (putO o.dst v tm) h1 = .ok tm' h' := by cases hd : o.dst <;> simpa [thenF, hd, hop, onO, putO] using hf2
        exact op_ok hE hP hc hi hr (fun x _ => opnd_ok ht x) hop _ Q fun v' w' μ' s1 hv => NEXT v' w' μ' s1 hv hf3
    have hgd : ∀ b, gdO ops.toList o tm = some b → Region.wanted o (yielded ops a.tmps) = b := fun b hb => guard_ok (fun g o' t _ _ _ x hx => ht t x hx) hb
    show wpOps P ops Q (List.range' pre.length (l.length + 1)) a w
    rw [List.range'_succ]
    simp only [wpOps, hpo]
    unfold stepF at hf1
    cases hg : o.guard with
    | none =>
      rw [hg] at hf1
      rw [hgd true (by simp [gdO, hg]), if_pos rfl]
      exact .inl (THEN hf1)
    | some g =>
      rw [hg] at hf1
      simp only [onO_some] at hf1
      cases hb : gdF ops.toList g tm with
      | none => rw [hb] at hf1; simp at hf1
      | some b =>
        rw [hb] at hf1
        simp only [onO_some] at hf1
        rw [hgd b (by simp [gdO, hg, hb])]
        cases b with
        | true => rw [if_pos rfl]; exact .inl (THEN hf1)
        | false =>
          have hf4 : opsF E ops.toList l call (putO o.dst undefA tm) h = .ok tm' h' := by cases hd : o.dst <;> simpa [skipF, hd, onO, putO] using hf1
          rw [if_neg (by simp)]
          exact NEXT undef w μ (Stp.refl hr.hr) (undefA_ok μ) hf4
end

mutual
theorem same_eq (x y : AVal) (h : AVal.same x y = true) : x = y := by
  cases x <;> cases y <;> simp only [AVal.same] at h <;> try (first | (simp at h; done) | rfl)
  case bool.bool a b => cases a <;> cases b <;> first | rfl | (simp at h)
  case int.int k a k' b =>
    rw [Bool.and_eq_true] at h
    have h1 : k = k' := eq_of_beq h.1
    have h2 : a = b := by simpa [iEq_ok] using h.2
    rw [h1, h2]
  case str.str => rw [Bool.and_eq_true, beq_true, beq_true] at h; rw [h.1, h.2]
  case ptr.ptr => rw [Bool.and_eq_true, beq_true, beq_true] at h; rw [h.1, h.2]
  case slice.slice b o l c b' o' l' c' =>
    rw [Bool.and_eq_true, Bool.and_eq_true, Bool.and_eq_true, beq_true, beq_true, beq_true] at h
    obtain ⟨⟨⟨rfl, rfl⟩, rfl⟩, h4⟩ := h
    cases c <;> cases c' <;> simp at h4 <;> rw [h4]
  case map.map => rw [beq_true] at h; rw [h]
  case func.func => rw [Bool.and_eq_true, beq_true] at h; rw [h.1, sameL_eq _ _ h.2]
  case iface.iface => rw [Bool.and_eq_true, beq_true] at h; rw [h.1, same_eq _ _ h.2]
  case agg.agg => rw [sameL_eq _ _ h]
  case tuple.tuple => rw [sameL_eq _ _ h]
  case float.float => rw [beq_true] at h; rw [h]
  case cplx.cplx => rw [Bool.and_eq_true, beq_true, beq_true] at h; rw [h.1, h.2]
theorem sameL_eq (l m : List AVal) (h : sameL l m = true) : l = m := by
  cases l <;> cases m <;> simp only [sameL] at h <;> try (simp at h; done)
  · rfl
  · rw [Bool.and_eq_true] at h
    rw [same_eq _ _ h.1, sameL_eq _ _ h.2]
end
end Go.Ev
