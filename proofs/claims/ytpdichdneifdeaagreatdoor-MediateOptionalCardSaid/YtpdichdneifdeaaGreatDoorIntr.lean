import Derived.Test.YtpdichdneifdeaaGreatDoorTab
import Derived.Test.YtpdichdneifdeaaGreatDoorSx
import Derived.Laws.Externs
import Derived.Lib.IndexBytes
namespace Go.Ev
open Go.Proofs
set_option linter.unusedVariables false
set_option maxRecDepth 100000

theorem fnE_ok {P : Program} {E : Env} (h : ∀ f, E.fn f = fnTab.get f) (hP : P = Tryz.prog) : FnOK P E := fnOK_of h (by rw [hP]; exact fnTab_ok) fnTab_good
theorem envE_ok {E : Env} (h : ∀ t, E.info t = tyTab.get t) : EnvOK Tryz.prog E := ⟨fun t i ht => by rw [h] at ht; have h1 : Tryz.prog.types[t]? = some i := all_get tyTab id tyTab_ok t i ht; unfold Tables.info?; rw [if_pos (Array.getElem?_eq_some_iff.1 h1).1]; exact h1, by kernel_rfl⟩
theorem plainL_ok : (plainL.all fun t => !Tryz.prog.stoodInHeld t && !Tryz.prog.eqGuardType Tryz.prog.depth t) = true := by kernel_rfl
theorem plain_ok {E : Env} (h : ∀ t, E.plain t = plainL.any (Nat.beq t)) : PlainOK Tryz.prog E := by
  have key : ∀ t ∈ plainL, Tryz.prog.stoodInHeld t = false ∧ Tryz.prog.eqGuardType Tryz.prog.depth t = false := by
    intro t ht
    have h2 := List.all_eq_true.1 plainL_ok t ht
    rw [Bool.and_eq_true] at h2
    exact ⟨by simpa using h2.1, by simpa using h2.2⟩
  have mem : ∀ t, E.plain t = true → t ∈ plainL := fun t ht => by rw [h] at ht; exact any_beq.1 ht
  exact ⟨fun t ht => (key t (mem t ht)).1, fun t ht => (key t (mem t ht)).2⟩

theorem sub_beq (s sub : List UInt8) (i : Nat) (h : i + sub.length ≤ s.length) : Nat.beq (subStr (packL s 0) s.length i (i + sub.length)) (packL sub 0) = Lib.occAt s sub i := by
  obtain ⟨h1, h2⟩ := subStr_ok s (lo := i) (hi := i + sub.length) (by omega) h
  rw [Lib.occAt_iff_take s sub i h, h1, show i + sub.length - i = sub.length by omega]
  have hl : ((s.drop i).take sub.length).length = sub.length := by rw [List.length_take, List.length_drop]; omega
  cases hb : (List.take sub.length (List.drop i s) == sub) with
  | true => rw [eq_of_beq hb]; exact Nat.beq_refl _
  | false =>
    cases hc : Nat.beq (packL (List.take sub.length (List.drop i s)) 0) (packL sub 0) with
    | false => rfl
    | true =>
      have := packL_inj hl (Nat.eq_of_beq_eq_true hc)
      rw [this] at hb; simp at hb
/-- the place, or minus one -/
def ofIdx (o : Option Nat) : Int := match o with | some i => (i : Int) | none => -1
theorem index_eq (s sub : List UInt8) : ofIdx ((List.range (s.length + 1 - sub.length)).find? fun i => Nat.beq (subStr (packL s 0) s.length i (i + sub.length)) (packL sub 0)) = Lib.index s sub := by
  unfold ofIdx
  split
  · rename_i i hf
    rw [List.find?_range_eq_some] at hf
    obtain ⟨h1, h2, h3⟩ := hf
    rw [List.mem_range] at h2
    have hi : i + sub.length ≤ s.length := by omega
    rw [sub_beq s sub i hi] at h1
    refine (Lib.index_first (by omega) h1 fun j hj => ?_).symm
    have h4 := h3 j hj
    rw [sub_beq s sub j (by omega)] at h4
    simpa using h4
  · rename_i hf
    rw [List.find?_range_eq_none] at hf
    refine (Lib.index_none fun j hj => ?_).symm
    cases ho : Lib.occAt s sub j with
    | false => rfl
    | true =>
      have hle : j + sub.length ≤ s.length := by
        rcases Lib.occAt_room ho with h | h
        · exact h
        · rw [h]; simpa using hj
      have h4 := hf j (by omega)
      rw [sub_beq s sub j hle, ho] at h4
      simp at h4
theorem one_beq (s : List UInt8) (c : UInt8) (i : Nat) (h : i < s.length) : Nat.beq (byteAt (packL s 0) s.length i) c.toNat = Lib.occAt s [c] i := by
  have := sub_beq s [c] i (by simp; omega)
  rw [← this, byteAt_ok s h]
  obtain ⟨h1, _⟩ := subStr_ok s (lo := i) (hi := i + 1) (by omega) h
  show _ = Nat.beq (subStr (packL s 0) s.length i (i + 1)) (packL [c] 0)
  rw [h1, show i + 1 - i = 1 by omega]
  have e : (s.drop i).take 1 = [s[i]] := by rw [List.drop_eq_getElem_cons h]; rfl
  rw [e]
  simp [packL]
theorem indexByte_eq (s : List UInt8) (c : UInt8) : ofIdx ((List.range s.length).find? fun i => Nat.beq (byteAt (packL s 0) s.length i) c.toNat) = Lib.indexByte s c := by
  rw [← Lib.index_one, ← index_eq]
  have e : (List.range s.length).find? (fun i => Nat.beq (byteAt (packL s 0) s.length i) c.toNat) = (List.range (s.length + 1 - [c].length)).find? fun i => Nat.beq (subStr (packL s 0) s.length i (i + [c].length)) (packL [c] 0) := by
    rw [show s.length + 1 - [c].length = s.length by simp]
    have key : ∀ l : List Nat, (∀ i ∈ l, i < s.length) → l.find? (fun i => Nat.beq (byteAt (packL s 0) s.length i) c.toNat) = l.find? fun i => Nat.beq (subStr (packL s 0) s.length i (i + [c].length)) (packL [c] 0) := by
      intro l
      induction l with
      | nil => intro _; rfl
      | cons i l ih =>
        intro hl
        have hi := hl i (by simp)
        rw [List.find?_cons, List.find?_cons, ih fun j hj => hl j (by simp [hj]), one_beq s c i hi, ← sub_beq s [c] i (by simp; omega)]
    exact key _ fun i hi => List.mem_range.1 hi
  rw [e]

theorem toI {o : Option Nat} {v : AVal} (h : (Option.rec (motive := fun _ => R1) (.ok (.int .i64 (.negSucc (nat_lit 0)))) (fun i => forceN i fun i => .ok (.int .i64 (.ofNat i))) o : R1) = .ok v) : v = .int .i64 (ofIdx o) := by
  cases o with
  | none => exact (R1.ok_inj h).symm
  | some i => have h' : forceN i (fun i => R1.ok (.int .i64 (.ofNat i))) = .ok v := h; rw [forceN_eq] at h'; exact (R1.ok_inj h').symm

/-- what stands in place of a function does what it does -/
theorem intr_ok {G : Keep} {E : Env} (hm : ∀ f args, E.memo f args = none) (hi : ∀ f, E.intr f = intrTab f) (hG : ∃ c e fr m, G 0 = some (.cells c e fr) ∧ c[0]? = some (.int .i64 m)) : IntrOK Tryz.prog G E := by
  refine ⟨fun f args c h => by rw [hm] at h; simp at h, fun f g args v hf hg μ h w args' hok ha => ?_⟩
  rw [hi] at hf
  unfold intrTab at hf
  cases h1 : Nat.beq f 128 with
  | true =>
    obtain rfl := Nat.eq_of_beq_eq_true h1
    rw [h1] at hf
    cases hf
    right
    rcases args with _ | ⟨x, _ | ⟨y, _ | ⟨z, l⟩⟩⟩ <;> try (cases x; all_goals first | (simp [strIndex] at hg; done) | skip)
    · simp [strIndex] at hg
    · cases y <;> try (simp [strIndex] at hg; done)
      cases hga : args'.toList with
      | nil => rw [hga] at ha; cases ha
      | cons a l =>
        rw [hga] at ha
        cases ha with
        | cons _ _ _ _ hx hl =>
        cases hl with
        | cons _ b _ l2 hy hl2 =>
        cases hl2
        obtain ⟨s, rfl, rfl, rfl⟩ := strV hx
        obtain ⟨sub, rfl, rfl, rfl⟩ := strV hy
        have hargs : args' = #[.string s, .string sub] := by apply Array.toList_inj.1; rw [hga]
        subst hargs
        obtain ⟨hlen, hg⟩ := ifB_eq hg (by simp)
        have hv := toI hg
        refine ⟨(Go.Proofs.enters_of Tryz.func128 (by kernel_rfl) rfl) _ _, ?_⟩
        obtain ⟨c, e, fr, m, g1, g2⟩ := hG
        obtain ⟨k1, _⟩ := hok.keep 0 _ g1
        have hsz : s.size < 4294967281 := by
          have := ble_true.1 hlen
          simp at this
          omega
        refine Calls.mono (Tryz.stringslite_Index s sub m w hsz (cell_of k1 g2)) ?_
        rintro e w' ⟨rfl, rfl⟩
        refine ⟨_, μ, rfl, Stp.refl hok.hr, ?_⟩
        rw [hv]
        have := index_eq s.data.toList sub.data.toList
        rw [← this]
        exact .int _ _
  | false =>
  rw [h1] at hf
  cases h2 : Nat.beq f 157 with
  | true =>
    obtain rfl := Nat.eq_of_beq_eq_true h2
    rw [h2] at hf
    cases hf
    left
    rcases args with _ | ⟨x, _ | ⟨y, _ | ⟨z, l⟩⟩⟩ <;> try (cases x; all_goals first | (simp [indexByteS] at hg; done) | skip)
    · simp [indexByteS] at hg
    · cases y <;> try (simp [indexByteS] at hg; done)
      rename_i k n
      cases n with
      | negSucc n => simp [indexByteS] at hg
      | ofNat c =>
      cases hga : args'.toList with
      | nil => rw [hga] at ha; cases ha
      | cons a l =>
        rw [hga] at ha
        cases ha with
        | cons _ _ _ _ hx hl =>
        cases hl with
        | cons _ b _ l2 hy hl2 =>
        cases hl2
        obtain ⟨s, rfl, rfl, rfl⟩ := strV hx
        cases hy
        obtain ⟨hb, hg2⟩ := ifB_eq (show ifB (kEq _ .u8 && Nat.ble c 255) _ R1.no = .ok v from hg) (by simp)
        rw [Bool.and_eq_true, ble_true] at hb
        obtain ⟨hk, hc⟩ := hb
        have hk := kEq_ok hk
        subst hk
        have hargs : args' = #[.string s, .int .u8 (c : Int)] := by apply Array.toList_inj.1; rw [hga]; rfl
        subst hargs
        have hv := toI hg2
        refine ⟨.int .i64 (Lib.indexByte s.data.toList ((c : Int).toNat.toUInt8)), w, μ, ?_, Stp.refl hok.hr, ?_⟩
        · rw [run_callFunc_extern Tryz.func157 (by kernel_rfl) (by kernel_rfl) (by kernel_rfl) (e := Extern.BytealgIndexByte.indexByte) (by kernel_rfl), Lib.run_indexByteString]
          rfl
        · rw [hv]
          have e1 : ((c : Int).toNat.toUInt8).toNat = c := by simp; omega
          have := indexByte_eq s.data.toList ((c : Int).toNat.toUInt8)
          rw [e1] at this
          rw [← this]
          exact .int _ _
  | false =>
  rw [h2] at hf
  cases h3 : Nat.beq f 299 with
  | true =>
    obtain rfl := Nat.eq_of_beq_eq_true h3
    rw [h3] at hf
    cases hf
    left
    rcases args with _ | ⟨x, _ | ⟨y, l⟩⟩
    · simp [idOf] at hg
    · have hg' : R1.ok x = .ok v := hg
      obtain rfl := R1.ok_inj hg'
      cases hga : args'.toList with
      | nil => rw [hga] at ha; cases ha
      | cons a l =>
        rw [hga] at ha
        cases ha with
        | cons _ _ _ _ hx hl =>
        cases hl
        have hargs : args' = #[a] := by apply Array.toList_inj.1; rw [hga]
        subst hargs
        refine ⟨a, w, μ, ?_, Stp.refl hok.hr, hx⟩
        rw [run_callFunc_extern Tryz.func299 (by kernel_rfl) (by kernel_rfl) (by kernel_rfl) (e := Extern.AbiNoEscape.same) (by kernel_rfl)]
        rfl
    · simp [idOf] at hg
  | false => rw [h3] at hf; cases hf
end Go.Ev
