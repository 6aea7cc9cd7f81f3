import Derived.Test.YtjebcgbmlbemcaaGreatDoorVMore
set_option linter.unusedVariables false
set_option linter.unusedSimpArgs false
namespace Go.Proofs.YtjebcgbmlbemcaaGreatDoor.M
open Go.RowKit Go.Proofs.YtjebcgbmlbemcaaGreatDoorW.PrintWords

/-! ### Rounds -/
theorem Ev.ite {α : Type} {c : Prop} [Decidable c] {A B : Nat → Option α} {r : α} (hp : c → Ev A r) (hn : ¬ c → Ev B r) : Ev (fun k => if c then A k else B k) r := by
  by_cases h : c
  · simp only [if_pos h]; exact hp h
  · simp only [if_neg h]; exact hn h
theorem Ev.pos {α : Type} {c : Prop} [Decidable c] {A B : Nat → Option α} {r : α} (h : c) (hp : Ev A r) : Ev (fun k => if c then A k else B k) r := Ev.ite (fun _ => hp) (fun n => absurd h n)
theorem Ev.neg {α : Type} {c : Prop} [Decidable c] {A B : Nat → Option α} {r : α} (h : ¬ c) (hn : Ev B r) : Ev (fun k => if c then A k else B k) r := Ev.ite (fun p => absurd p h) (fun _ => hn)
theorem Ev.const {α : Type} {x : Option α} {r : α} (h : x = some r) : Ev (fun _ => x) r := ⟨0, fun _ _ => h⟩
theorem Ev.bindc {α β : Type} {x : Option α} {f : Nat → α → Option β} {a : α} {r : β} (h : x = some a) (k : Ev (fun n => f n a) r) : Ev (fun n => x.bind (f n)) r := Ev.bind (Ev.const h) k
theorem Ev.to {α : Type} {g : Nat → Option α} {r r' : α} (h : Ev g r) (e : r = r') : Ev g r' := e ▸ h
theorem wrap64_id {x : Int} (h0 : -9223372036854775808 ≤ x) (h1 : x ≤ 9223372036854775807) : wrap64 x = x := by unfold wrap64; omega

/-! ### Letters -/
def slet (x : Int) : Int := if x ≥ 97 ∧ x < 102 then x - 97 else if x ≥ 65 ∧ x < 70 then x - 65 else -1
def ilet (x : Int) : Int := if (Go.bits .or .u8 x 32) < 97 then (-1) else if wrap64 ((wrap64 (Go.bits .or .u8 x 32)) - 97) ≥ 5 then (-1) else if x < 65 then (-1) else wrap64 ((wrap64 (Go.bits .or .u8 x 32)) - 97)
theorem ilet_all : ∀ n : Fin 256, ilet (n.val : Int) = slet (n.val : Int) := by decide +kernel
theorem ilet_eq (x : Int) (h0 : 0 ≤ x) (h1 : x ≤ 255) : ilet x = slet x := by
  have := ilet_all ⟨x.toNat, by omega⟩
  simpa [Int.toNat_of_nonneg h0] using this
theorem slet_range (x : Int) : -1 ≤ slet x ∧ slet x < 5 := by unfold slet; split <;> (try split) <;> omega
theorem or_all : ∀ n : Fin 256, ∀ m : Fin 256, 0 ≤ slet (n.val : Int) → 0 ≤ slet (m.val : Int) → (Go.bits .or .u8 (n.val : Int) 32 = Go.bits .or .u8 (m.val : Int) 32 ↔ slet (n.val : Int) = slet (m.val : Int)) := by decide +kernel
theorem or_eq (x y : Int) (h0 : 0 ≤ x) (h1 : x ≤ 255) (k0 : 0 ≤ y) (k1 : y ≤ 255) (hx : 0 ≤ slet x) (hy : 0 ≤ slet y) : Go.bits .or .u8 x 32 = Go.bits .or .u8 y 32 ↔ slet x = slet y := by
  have := or_all ⟨x.toNat, by omega⟩ ⟨y.toNat, by omega⟩
  simp only [Int.toNat_of_nonneg h0, Int.toNat_of_nonneg k0] at this
  exact this hx hy
theorem slet_eq {x y : Int} (hx : 0 ≤ slet x) (h : slet x = slet y) : (x = y ↔ (decide (x ≥ 97) = decide (y ≥ 97))) := by
  unfold slet at *
  by_cases a : x ≥ 97 <;> by_cases b : y ≥ 97 <;> simp [a, b] <;> (repeat' split at h) <;> (try split at hx) <;> omega

/-! ### Words -/
def wl (s : ByteArray) (i : Nat) : Int := slet (bt s (i : Int))
def wcnt (s : ByteArray) (c : Int) : Nat → Nat
  | 0 => 0
  | k + 1 => wcnt s c k + (if wl s k = c then 1 else 0)
def WOK (s : ByteArray) : Prop := 0 < s.size ∧ ∀ i, i < s.size → 0 ≤ wl s i ∧ wcnt s (wl s i) s.size = 2
instance (s : ByteArray) : Decidable (WOK s) := by unfold WOK; infer_instance
theorem wcnt_le (s : ByteArray) (c : Int) : ∀ k, wcnt s c k ≤ k
  | 0 => Nat.le_refl _
  | k + 1 => by
    have := wcnt_le s c k
    simp only [wcnt]; split <;> omega
theorem wcnt_mono (s : ByteArray) (c : Int) : ∀ {k n : Nat}, k ≤ n → wcnt s c k ≤ wcnt s c n
  | k, 0, h => by obtain rfl : k = 0 := by omega
                  exact Nat.le_refl _
  | k, n + 1, h => by
    by_cases e : k = n + 1
    · subst e; exact Nat.le_refl _
    · have := wcnt_mono s c (k := k) (n := n) (by omega)
      simp only [wcnt]; omega
theorem wcnt_zero {s : ByteArray} {c : Int} : ∀ {k : Nat}, wcnt s c k = 0 → ∀ j, j < k → wl s j ≠ c
  | 0, _, j, hj => by omega
  | k + 1, h, j, hj => by
    simp only [wcnt] at h
    by_cases e : wl s k = c
    · simp [e] at h
    · simp [e] at h
      by_cases ej : j = k
      · subst ej; exact e
      · exact wcnt_zero h j (by omega)
theorem wcnt_one {s : ByteArray} {c : Int} : ∀ {k : Nat}, wcnt s c k = 1 → ∃ a, a < k ∧ wl s a = c ∧ ∀ j, j < k → wl s j = c → j = a
  | 0, h => by simp [wcnt] at h
  | k + 1, h => by
    simp only [wcnt] at h
    by_cases e : wl s k = c
    · simp [e] at h
      exact ⟨k, by omega, e, fun j hj hc => by
        by_cases ej : j = k
        · exact ej
        · exact absurd hc (wcnt_zero h j (by omega))⟩
    · simp [e] at h
      obtain ⟨a, h1, h2, h3⟩ := wcnt_one h
      exact ⟨a, by omega, h2, fun j hj hc => by
        by_cases ej : j = k
        · subst ej; exact absurd hc e
        · exact h3 j (by omega) hc⟩
theorem wcnt_two {s : ByteArray} {c : Int} : ∀ {k : Nat}, wcnt s c k = 2 → ∃ a b, a < b ∧ b < k ∧ wl s a = c ∧ wl s b = c ∧ ∀ j, j < k → wl s j = c → j = a ∨ j = b
  | 0, h => by simp [wcnt] at h
  | k + 1, h => by
    simp only [wcnt] at h
    by_cases e : wl s k = c
    · simp [e] at h
      obtain ⟨a, h1, h2, h3⟩ := wcnt_one h
      exact ⟨a, k, by omega, by omega, h2, e, fun j hj hc => by
        by_cases ej : j = k
        · exact .inr ej
        · exact .inl (h3 j (by omega) hc)⟩
    · simp [e] at h
      obtain ⟨a, b, h0, h1, h2, h3, h4⟩ := wcnt_two h
      exact ⟨a, b, h0, by omega, h2, h3, fun j hj hc => by
        by_cases ej : j = k
        · subst ej; exact absurd hc e
        · exact h4 j (by omega) hc⟩
def par (s : ByteArray) (i : Nat) : Nat := ((List.range s.size).find? (fun k => decide (k ≠ i ∧ wl s k = wl s i))).getD i
theorem par_spec {s : ByteArray} (h : WOK s) {i : Nat} (hi : i < s.size) : par s i < s.size ∧ par s i ≠ i ∧ wl s (par s i) = wl s i ∧ ∀ k, k < s.size → k ≠ i → wl s k = wl s i → k = par s i := by
  obtain ⟨a, b, hab, hb, ha', hb', hu⟩ := wcnt_two (h.2 i hi).2
  have key : ∀ o, o < s.size → o ≠ i → wl s o = wl s i → (∀ j, j < s.size → wl s j = wl s i → j = i ∨ j = o) → par s i = o := by
    intro o ho hoi hol huo
    unfold par
    have hf : ((List.range s.size).find? (fun k => decide (k ≠ i ∧ wl s k = wl s i))) = some o := by
      cases hq : (List.range s.size).find? (fun k => decide (k ≠ i ∧ wl s k = wl s i)) with
      | none => exact absurd (by simp [hoi, hol]) (List.find?_eq_none.1 hq o (List.mem_range.2 ho))
      | some q =>
        have h1 := List.find?_some hq
        have h2 := List.mem_of_find?_eq_some hq
        simp only [decide_eq_true_eq] at h1
        rcases huo q (List.mem_range.1 h2) h1.2 with e | e
        · exact absurd e h1.1
        · rw [e]
    rw [hf]; rfl
  have hi2 := hu i hi rfl
  obtain ⟨o, ho, hoi, hol, huo⟩ : ∃ o, o < s.size ∧ o ≠ i ∧ wl s o = wl s i ∧ (∀ j, j < s.size → wl s j = wl s i → j = i ∨ j = o) := by
    rcases hi2 with e | e
    · exact ⟨b, hb, by omega, hb', fun j hj hc => by rcases hu j hj hc with q | q <;> omega⟩
    · exact ⟨a, by omega, by omega, ha', fun j hj hc => by rcases hu j hj hc with q | q <;> omega⟩
  rw [key o ho hoi hol huo]
  exact ⟨ho, hoi, hol, fun k hk hki hkl => by rcases huo k hk hkl with q | q <;> omega⟩
theorem par_par {s : ByteArray} (h : WOK s) {i : Nat} (hi : i < s.size) : par s (par s i) = i := by
  obtain ⟨h1, h2, h3, h4⟩ := par_spec h hi
  obtain ⟨k1, k2, k3, k4⟩ := par_spec h h1
  exact (k4 i hi (Ne.symm h2) h3.symm).symm
theorem bt_rng (s : ByteArray) (i : Int) : 0 ≤ bt s i ∧ bt s i ≤ 255 := bt_range s i
def wsm (s : ByteArray) (i : Nat) : Bool := decide (bt s (i : Int) ≥ 97)
def WSD (s : ByteArray) : Prop := WOK s ∧ ∀ i, i < s.size → wsm s i ≠ wsm s (par s i)
instance (s : ByteArray) : Decidable (WSD s) := by unfold WSD; infer_instance
theorem bt_same {s : ByteArray} (h : WOK s) {i : Nat} (hi : i < s.size) : bt s (i : Int) = bt s (par s i : Int) ↔ wsm s i = wsm s (par s i) := by
  obtain ⟨h1, h2, h3, h4⟩ := par_spec h hi
  exact slet_eq (h.2 i hi).1 h3.symm
def pars (s : ByteArray) : List Int := (List.range s.size).map (fun i => (par s i : Int))
theorem pars_length (s : ByteArray) : (pars s).length = s.size := by simp [pars]
theorem rd_pars (s : ByteArray) (i : Nat) (h : i < s.size) : rd (pars s) (i : Int) = (par s i : Int) := by
  simp [rd, pars, List.getD_eq_getElem?_getD, List.getElem?_map, List.getElem?_range h]
theorem wcnt_sum (s : ByteArray) : ∀ k, (∀ i, i < k → 0 ≤ wl s i) → wcnt s 0 k + wcnt s 1 k + wcnt s 2 k + wcnt s 3 k + wcnt s 4 k = k := by
  intro k
  induction k with
  | zero => intro _; rfl
  | succ k ih =>
    intro h
    have := ih (fun i hi => h i (by omega))
    have hr := slet_range (bt s (k : Int))
    have h0 := h k (by omega)
    have hc : wl s k = 0 ∨ wl s k = 1 ∨ wl s k = 2 ∨ wl s k = 3 ∨ wl s k = 4 := by unfold wl at *; omega
    simp only [wcnt]
    rcases hc with e | e | e | e | e <;> rw [e] <;> simp <;> omega
theorem WOK.size {s : ByteArray} (h : WOK s) : 2 ≤ s.size ∧ s.size ≤ 10 := by
  have hsum := wcnt_sum s s.size (fun i hi => (h.2 i hi).1)
  have hp := h.1
  have hc : ∀ c, wcnt s c s.size ≤ 2 := by
    intro c
    by_cases hz : wcnt s c s.size = 0
    · omega
    · obtain ⟨i, hi, hl⟩ : ∃ i, i < s.size ∧ wl s i = c := by
        refine Classical.byContradiction fun hno => hz ?_
        have : ∀ k, k ≤ s.size → wcnt s c k = 0 := by
          intro k
          induction k with
          | zero => intro _; rfl
          | succ k ih => intro hk; simp only [wcnt]; rw [ih (by omega), if_neg (fun e => hno ⟨k, by omega, e⟩)]
        exact this s.size (Nat.le_refl _)
      rw [← hl]; exact Nat.le_of_eq (h.2 i hi).2
  have c0 := hc 0
  have c1 := hc 1
  have c2 := hc 2
  have c3 := hc 3
  have c4 := hc 4
  have e := (h.2 0 hp).2
  have := wcnt_le s (wl s 0) s.size
  omega

end Go.Proofs.YtjebcgbmlbemcaaGreatDoor.M
