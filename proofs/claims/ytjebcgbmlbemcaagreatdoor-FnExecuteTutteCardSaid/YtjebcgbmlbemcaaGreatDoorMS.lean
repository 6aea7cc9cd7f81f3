import Derived.Test.YtjebcgbmlbemcaaGreatDoorMO
set_option linter.unusedVariables false
set_option linter.unusedSimpArgs false
namespace Go.Proofs.YtjebcgbmlbemcaaGreatDoor.M
open Go.RowKit Go.Proofs.YtjebcgbmlbemcaaGreatDoorW.PrintWords

/-! ### Finite sums -/
def sumN (f : Nat → Nat) : Nat → Nat
  | 0 => 0
  | n + 1 => sumN f n + f n
theorem sumN_congr {f g : Nat → Nat} : ∀ {n : Nat}, (∀ i, i < n → f i = g i) → sumN f n = sumN g n
  | 0, _ => rfl
  | n + 1, h => by simp only [sumN]; rw [sumN_congr (n := n) (fun i hi => h i (by omega)), h n (by omega)]
theorem sumN_add (f g : Nat → Nat) : ∀ n, sumN (fun i => f i + g i) n = sumN f n + sumN g n
  | 0 => rfl
  | n + 1 => by simp only [sumN]; rw [sumN_add f g n]; omega
theorem sumN_zero : ∀ n, sumN (fun _ => 0) n = 0
  | 0 => rfl
  | n + 1 => by simp only [sumN]; rw [sumN_zero n]
theorem sumN_swap (f : Nat → Nat → Nat) (m : Nat) : ∀ n, sumN (fun i => sumN (fun j => f i j) m) n = sumN (fun j => sumN (fun i => f i j) n) m
  | 0 => by simp only [sumN]; exact (sumN_zero m).symm
  | n + 1 => by
    simp only [sumN]
    rw [sumN_swap f m n, ← sumN_add]
theorem sumN_single (v : Nat → Nat) (k : Nat) : ∀ n, sumN (fun i => if i = k then v i else 0) n = if k < n then v k else 0
  | 0 => by simp [sumN]
  | n + 1 => by
    simp only [sumN]
    rw [sumN_single v k n]
    by_cases h1 : k < n
    · rw [if_pos h1, if_neg (by omega), if_pos (by omega)]; rfl
    · rw [if_neg h1]
      by_cases h2 : n = k
      · subst h2; rw [if_pos rfl, if_pos (by omega)]; omega
      · rw [if_neg h2, if_neg (by omega)]
theorem sumN_mono {f g : Nat → Nat} : ∀ {n : Nat}, (∀ i, i < n → f i ≤ g i) → sumN f n ≤ sumN g n
  | 0, _ => Nat.le_refl _
  | n + 1, h => by
    have := sumN_mono (n := n) (fun i hi => h i (by omega))
    have := h n (by omega)
    simp only [sumN]; omega
theorem cntP_sum (p : Nat → Bool) : ∀ n, cntP p n = sumN (fun i => if p i = true then 1 else 0) n
  | 0 => rfl
  | n + 1 => by simp only [cntP, sumN]; rw [cntP_sum p n]
/-- A sum over all points is as well one over all points moved. -/
theorem sumN_perm (f : Nat → Nat) {n : Nat} (σ τ : Nat → Nat) (hσ : ∀ i, i < n → σ i < n ∧ τ (σ i) = i) (hτ : ∀ i, i < n → τ i < n ∧ σ (τ i) = i) : sumN (fun i => f (σ i)) n = sumN f n := by
  have h1 : sumN (fun i => f (σ i)) n = sumN (fun i => sumN (fun j => if j = σ i then f j else 0) n) n :=
    sumN_congr (fun i hi => by rw [sumN_single f (σ i) n, if_pos (hσ i hi).1])
  have h2 : sumN (fun j => sumN (fun i => if j = σ i then f j else 0) n) n = sumN f n :=
    sumN_congr (fun j hj => by
      have : sumN (fun i => if j = σ i then f j else 0) n = sumN (fun i => if i = τ j then f j else 0) n := sumN_congr (fun i hi => by
        by_cases e : j = σ i
        · rw [if_pos e, if_pos (by rw [e, (hσ i hi).2])]
        · rw [if_neg e, if_neg (fun h => e (by rw [h, (hτ j hj).2]))])
      rw [this, sumN_single (fun _ => f j) (τ j) n, if_pos (hτ j hj).1])
  rw [h1, sumN_swap, h2]
theorem cntP_perm (p : Nat → Bool) {n : Nat} (σ τ : Nat → Nat) (hσ : ∀ i, i < n → σ i < n ∧ τ (σ i) = i) (hτ : ∀ i, i < n → τ i < n ∧ σ (τ i) = i) : cntP (fun i => p (σ i)) n = cntP p n := by
  rw [cntP_sum, cntP_sum]
  exact sumN_perm (fun i => if p i = true then 1 else 0) σ τ hσ hτ
theorem cntP_not (p : Nat → Bool) : ∀ n, cntP p n + cntP (fun i => !p i) n = n
  | 0 => rfl
  | n + 1 => by
    have := cntP_not p n
    simp only [cntP]
    by_cases e : p n = true
    · rw [if_pos e, if_neg (by simp [e])]; omega
    · rw [if_neg e, if_pos (by simpa using e)]; omega

end Go.Proofs.YtjebcgbmlbemcaaGreatDoor.M
