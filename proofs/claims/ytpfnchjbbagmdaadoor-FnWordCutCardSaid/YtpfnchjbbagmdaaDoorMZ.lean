import Derived.Test.YtpfnchjbbagmdaaDoorMY
set_option linter.unusedVariables false
set_option linter.unusedSimpArgs false
namespace Go.Proofs.YtpfnchjbbagmdaaDoor.M
open Go.RowKit Go.Proofs.YtpfnchjbbagmdaaDoorW.PrintWords

/-! ### Cut and glued: the surface stays -/
/-- Where the second half of the new letter stands. -/
def cutY (n i m : Nat) (e : Bool) : Nat := if e = true then m else i + n - m - 1
/-- The old side at a new place. -/
def cutP (n i k m : Nat) (e : Bool) (j : Nat) : Nat :=
  if j < i - k - 1 then k + 1 + j else if j = i - k - 1 then k else if j < i then j - (i - k) else
    if e = true then (if j < m then i + m - 1 - j else if j = m then m else n + m - j) else (if j < i + n - m - 1 then m + 1 + (j - i) else if j = i + n - m - 1 then m else j - (n - m))
/-- The new place of an old side. -/
def cutQ (n i k m : Nat) (e : Bool) (x : Nat) : Nat :=
  if x < k then i - k + x else if x = k then i - k - 1 else if x < i then x - k - 1 else
    if e = true then (if x < m then i + m - 1 - x else if x = m then m else n + m - x) else (if x < m then n - m + x else if x = m then i + n - m - 1 else i + x - m - 1)
structure CutN (n i k m : Nat) : Prop where
  hk : k < i
  hi : i < n
  hm : i ≤ m
  hn : m < n
set_option maxHeartbeats 4000000 in
theorem cutPQ {n i k m : Nat} (h : CutN n i k m) (e : Bool) : (∀ j, j < n → cutP n i k m e j < n ∧ cutQ n i k m e (cutP n i k m e j) = j) ∧ (∀ x, x < n → cutQ n i k m e x < n ∧ cutP n i k m e (cutQ n i k m e x) = x) := by
  obtain ⟨h1, h2, h3, h4⟩ := h
  constructor
  · intro j hj
    cases e with
    | true =>
      have : (j < i - k - 1 ∧ cutP n i k m true j = k + 1 + j) ∨ (j = i - k - 1 ∧ cutP n i k m true j = k) ∨ (i - k - 1 < j ∧ j < i ∧ cutP n i k m true j = j - (i - k)) ∨
          (i ≤ j ∧ j < m ∧ cutP n i k m true j = i + m - 1 - j) ∨ (j = m ∧ cutP n i k m true j = m) ∨ (m < j ∧ cutP n i k m true j = n + m - j) := by
        unfold cutP
        simp only [if_true]
        repeat' split
        all_goals omega
      generalize cutP n i k m true j = x at *
      unfold cutQ
      simp only [if_true]
      refine ⟨by omega, ?_⟩
      repeat' split
      all_goals omega
    | false =>
      have : (j < i - k - 1 ∧ cutP n i k m false j = k + 1 + j) ∨ (j = i - k - 1 ∧ cutP n i k m false j = k) ∨ (i - k - 1 < j ∧ j < i ∧ cutP n i k m false j = j - (i - k)) ∨
          (i ≤ j ∧ j < i + n - m - 1 ∧ cutP n i k m false j = m + 1 + (j - i)) ∨ (j = i + n - m - 1 ∧ cutP n i k m false j = m) ∨ (i + n - m - 1 < j ∧ cutP n i k m false j = j - (n - m)) := by
        unfold cutP
        simp only [Bool.false_eq_true, if_false]
        repeat' split
        all_goals omega
      generalize cutP n i k m false j = x at *
      unfold cutQ
      simp only [Bool.false_eq_true, if_false]
      refine ⟨by omega, ?_⟩
      repeat' split
      all_goals omega
  · intro x hx
    cases e with
    | true =>
      have : (x < k ∧ cutQ n i k m true x = i - k + x) ∨ (x = k ∧ cutQ n i k m true x = i - k - 1) ∨ (k < x ∧ x < i ∧ cutQ n i k m true x = x - k - 1) ∨
          (i ≤ x ∧ x < m ∧ cutQ n i k m true x = i + m - 1 - x) ∨ (x = m ∧ cutQ n i k m true x = m) ∨ (m < x ∧ cutQ n i k m true x = n + m - x) := by
        unfold cutQ
        simp only [if_true]
        repeat' split
        all_goals omega
      generalize cutQ n i k m true x = j at *
      unfold cutP
      simp only [if_true]
      refine ⟨by omega, ?_⟩
      repeat' split
      all_goals omega
    | false =>
      have : (x < k ∧ cutQ n i k m false x = i - k + x) ∨ (x = k ∧ cutQ n i k m false x = i - k - 1) ∨ (k < x ∧ x < i ∧ cutQ n i k m false x = x - k - 1) ∨
          (i ≤ x ∧ x < m ∧ cutQ n i k m false x = n - m + x) ∨ (x = m ∧ cutQ n i k m false x = i + n - m - 1) ∨ (m < x ∧ cutQ n i k m false x = i + x - m - 1) := by
        unfold cutQ
        simp only [Bool.false_eq_true, if_false]
        repeat' split
        all_goals omega
      generalize cutQ n i k m false x = j at *
      unfold cutP
      simp only [Bool.false_eq_true, if_false]
      refine ⟨by omega, ?_⟩
      repeat' split
      all_goals omega
/-- The old corner at a new corner. -/
def cutF (n i k m : Nat) (e : Bool) (j : Nat) : Nat :=
  if j < i - k then k + 1 + j else if j < i then j - (i - k) else
    if e = true then (if j ≤ m then i + m - j else if j = m + 1 then 0 else n + m + 1 - j) else (if j < i + n - m - 1 then m + 1 + (j - i) else if j = i + n - m - 1 then 0 else j - (n - m))
/-- The new corner at an old corner. -/
def cutG (n i k m : Nat) (e : Bool) (a : Nat) : Nat :=
  if a ≤ k then i - k + a else if a ≤ i then a - k - 1 else
    if e = true then (if a ≤ m then i + m - a else if a = m + 1 then 0 else n + m + 1 - a) else (if a < m then n - m + a else if a = m then 0 else i + a - m - 1)
/-- A side's two ends, as they stand or exchanged. -/
def Ends (F : Prop) (X Y B E : Nat) : Prop := (¬ F → X = B ∧ Y = E) ∧ (F → X = E ∧ Y = B)
theorem Ends.flip {F : Prop} {X Y B E : Nat} (h : Ends F X Y B E) : Ends F B E X Y := ⟨fun f => ⟨(h.1 f).1.symm, (h.1 f).2.symm⟩, fun f => ⟨(h.2 f).2.symm, (h.2 f).1.symm⟩⟩
theorem pair_move {B E B' E' X Y X' Y' : Nat} {F F' S T : Prop} (h1 : Ends F X Y B E) (h2 : Ends F' X' Y' B' E') (hS : (S → B = B' ∧ E = E') ∧ (¬ S → B = E' ∧ E = B')) (hT : T ↔ ((F ↔ F') ↔ S)) :
    (T → X = X' ∧ Y = Y') ∧ (¬ T → X = Y' ∧ Y = X') := by
  obtain ⟨a1, a2⟩ := h1
  obtain ⟨b1, b2⟩ := h2
  by_cases f : F
  · obtain ⟨x1, x2⟩ := a2 f
    by_cases f' : F'
    · obtain ⟨y1, y2⟩ := b2 f'
      have hT' : T ↔ S := by rw [hT]; exact ⟨fun h => h.1 ⟨fun _ => f', fun _ => f⟩, fun s => ⟨fun _ => s, fun _ => ⟨fun _ => f', fun _ => f⟩⟩⟩
      exact ⟨fun w => by have := hS.1 (hT'.1 w); exact ⟨by rw [x1, y1, this.2], by rw [x2, y2, this.1]⟩, fun w => by have := hS.2 (fun s => w (hT'.2 s)); exact ⟨by rw [x1, y2, this.2], by rw [x2, y1, this.1]⟩⟩
    · obtain ⟨y1, y2⟩ := b1 f'
      have hT' : T ↔ ¬ S := by rw [hT]; exact ⟨fun h s => f' ((h.2 s).1 f), fun s => ⟨fun h => absurd (h.1 f) f', fun h => absurd h s⟩⟩
      exact ⟨fun w => by have := hS.2 (hT'.1 w); exact ⟨by rw [x1, y1, this.2], by rw [x2, y2, this.1]⟩, fun w => by have := hS.1 (Classical.byContradiction fun s => w (hT'.2 s)); exact ⟨by rw [x1, y2, this.2], by rw [x2, y1, this.1]⟩⟩
  · obtain ⟨x1, x2⟩ := a1 f
    by_cases f' : F'
    · obtain ⟨y1, y2⟩ := b2 f'
      have hT' : T ↔ ¬ S := by rw [hT]; exact ⟨fun h s => f ((h.2 s).2 f'), fun s => ⟨fun h => absurd (h.2 f') f, fun h => absurd h s⟩⟩
      exact ⟨fun w => by have := hS.2 (hT'.1 w); exact ⟨by rw [x1, y1, this.1], by rw [x2, y2, this.2]⟩, fun w => by have := hS.1 (Classical.byContradiction fun s => w (hT'.2 s)); exact ⟨by rw [x1, y2, this.1], by rw [x2, y1, this.2]⟩⟩
    · obtain ⟨y1, y2⟩ := b1 f'
      have hT' : T ↔ S := by rw [hT]; exact ⟨fun h => h.1 ⟨fun x => absurd x f, fun x => absurd x f'⟩, fun s => ⟨fun _ => s, fun _ => ⟨fun x => absurd x f, fun x => absurd x f'⟩⟩⟩
      exact ⟨fun w => by have := hS.1 (hT'.1 w); exact ⟨by rw [x1, y1, this.1], by rw [x2, y2, this.2]⟩, fun w => by have := hS.2 (fun s => w (hT'.2 s)); exact ⟨by rw [x1, y2, this.1], by rw [x2, y1, this.2]⟩⟩
section
variable {n i k m : Nat} {e : Bool} {c : Nat → Nat}
/-- What the glued sides k and m tell of the corners' colours. -/
def GlueK (n k m : Nat) (e : Bool) (c : Nat → Nat) : Prop := if e = true then c k = c m ∧ c (k + 1) = c (sucN n m) else c k = c (sucN n m) ∧ c (k + 1) = c m
def GlueY (n i k m : Nat) (e : Bool) (c : Nat → Nat) : Prop := if e = true then c (i - k - 1) = c m ∧ c (i - k) = c (sucN n m) else c (i - k - 1) = c (sucN n (i + n - m - 1)) ∧ c (i - k) = c (i + n - m - 1)
set_option maxHeartbeats 4000000 in
theorem cutF_side (h : CutN n i k m) (hg : GlueK n k m e c) {j : Nat} (hj : j < n) (h1 : j ≠ i - k - 1) (h2 : j ≠ cutY n i m e) :
    Ends (e = true ∧ i ≤ j) (c (cutF n i k m e j)) (c (cutF n i k m e (sucN n j))) (c (cutP n i k m e j)) (c (sucN n (cutP n i k m e j))) := by
  obtain ⟨q1, q2, q3, q4⟩ := h
  have cg : ∀ {a b : Nat}, a = b → c a = c b := fun w => congrArg c w
  cases e with
  | true =>
    unfold GlueK at hg
    rw [if_pos rfl] at hg
    unfold cutY at h2
    rw [if_pos rfl] at h2
    rcases (by omega : (j < i - k - 1) ∨ (i - k - 1 < j ∧ j + 1 < i) ∨ (i - k - 1 < j ∧ j + 1 = i) ∨ (i ≤ j ∧ j < m) ∨ (m < j ∧ j + 1 < n) ∨ (m < j ∧ j + 1 = n)) with r | r | r | r | r | r
    · have e1 : cutF n i k m true j = k + 1 + j := by unfold cutF; rw [if_pos (by omega)]
      have e2 : cutF n i k m true (sucN n j) = k + 1 + j + 1 := by rw [show sucN n j = j + 1 by unfold sucN; rw [if_neg (by omega)]]; unfold cutF; rw [if_pos (by omega)]; omega
      have e3 : cutP n i k m true j = k + 1 + j := by unfold cutP; rw [if_pos (by omega)]
      have e4 : sucN n (k + 1 + j) = k + 1 + j + 1 := by unfold sucN; rw [if_neg (by omega)]
      rw [e1, e2, e3, e4]
      exact ⟨fun _ => ⟨rfl, rfl⟩, fun w => by omega⟩
    · have e1 : cutF n i k m true j = j - (i - k) := by unfold cutF; rw [if_neg (by omega), if_pos (by omega)]
      have e2 : cutF n i k m true (sucN n j) = j - (i - k) + 1 := by rw [show sucN n j = j + 1 by unfold sucN; rw [if_neg (by omega)]]; unfold cutF; rw [if_neg (by omega), if_pos (by omega)]; omega
      have e3 : cutP n i k m true j = j - (i - k) := by unfold cutP; rw [if_neg (by omega), if_neg (by omega), if_pos (by omega)]
      have e4 : sucN n (j - (i - k)) = j - (i - k) + 1 := by unfold sucN; rw [if_neg (by omega)]
      rw [e1, e2, e3, e4]
      exact ⟨fun _ => ⟨rfl, rfl⟩, fun w => by omega⟩
    · have e1 : cutF n i k m true j = j - (i - k) := by unfold cutF; rw [if_neg (by omega), if_pos (by omega)]
      have e2 : cutF n i k m true (sucN n j) = m := by rw [show sucN n j = j + 1 by unfold sucN; rw [if_neg (by omega)]]; unfold cutF; rw [if_neg (by omega), if_neg (by omega), if_pos rfl, if_pos (by omega)]; omega
      have e3 : cutP n i k m true j = j - (i - k) := by unfold cutP; rw [if_neg (by omega), if_neg (by omega), if_pos (by omega)]
      have e4 : sucN n (j - (i - k)) = k := by unfold sucN; rw [if_neg (by omega)]; omega
      rw [e1, e2, e3, e4, hg.1]
      exact ⟨fun _ => ⟨rfl, rfl⟩, fun w => by omega⟩
    · have e1 : cutF n i k m true j = i + m - j := by unfold cutF; rw [if_neg (by omega), if_neg (by omega), if_pos rfl, if_pos (by omega)]
      have e2 : cutF n i k m true (sucN n j) = i + m - 1 - j := by rw [show sucN n j = j + 1 by unfold sucN; rw [if_neg (by omega)]]; unfold cutF; rw [if_neg (by omega), if_neg (by omega), if_pos rfl, if_pos (by omega)]; omega
      have e3 : cutP n i k m true j = i + m - 1 - j := by unfold cutP; rw [if_neg (by omega), if_neg (by omega), if_neg (by omega), if_pos rfl, if_pos (by omega)]
      have e4 : sucN n (i + m - 1 - j) = i + m - j := by unfold sucN; rw [if_neg (by omega)]; omega
      rw [e1, e2, e3, e4]
      exact ⟨fun w => absurd ⟨rfl, by omega⟩ w, fun _ => ⟨rfl, rfl⟩⟩
    · have e1 : cutF n i k m true j = (if j = m + 1 then 0 else n + m + 1 - j) := by unfold cutF; rw [if_neg (by omega), if_neg (by omega), if_pos rfl, if_neg (by omega)]
      have e2 : cutF n i k m true (sucN n j) = n + m - j := by rw [show sucN n j = j + 1 by unfold sucN; rw [if_neg (by omega)]]; unfold cutF; rw [if_neg (by omega), if_neg (by omega), if_pos rfl, if_neg (by omega), if_neg (by omega)]; omega
      have e3 : cutP n i k m true j = n + m - j := by unfold cutP; rw [if_neg (by omega), if_neg (by omega), if_neg (by omega), if_pos rfl, if_neg (by omega), if_neg (by omega)]
      have e4 : sucN n (n + m - j) = (if j = m + 1 then 0 else n + m + 1 - j) := by unfold sucN; split <;> split <;> omega
      rw [e1, e2, e3, e4]
      exact ⟨fun w => absurd ⟨rfl, by omega⟩ w, fun _ => ⟨rfl, rfl⟩⟩
    · have e1 : cutF n i k m true j = (if j = m + 1 then 0 else n + m + 1 - j) := by unfold cutF; rw [if_neg (by omega), if_neg (by omega), if_pos rfl, if_neg (by omega)]
      have e2 : cutF n i k m true (sucN n j) = k + 1 := by rw [show sucN n j = 0 by unfold sucN; rw [if_pos (by omega)]]; unfold cutF; rw [if_pos (by omega)]
      have e3 : cutP n i k m true j = n + m - j := by unfold cutP; rw [if_neg (by omega), if_neg (by omega), if_neg (by omega), if_pos rfl, if_neg (by omega), if_neg (by omega)]
      have e4 : sucN n (n + m - j) = (if j = m + 1 then 0 else n + m + 1 - j) := by unfold sucN; split <;> split <;> omega
      have e5 : sucN n m = n + m - j := by unfold sucN; rw [if_neg (by omega)]; omega
      rw [e1, e2, e3, e4, hg.2, e5]
      exact ⟨fun w => absurd ⟨rfl, by omega⟩ w, fun _ => ⟨rfl, rfl⟩⟩
  | false =>
    unfold GlueK at hg
    rw [if_neg (by simp)] at hg
    unfold cutY at h2
    rw [if_neg (by simp)] at h2
    rcases (by omega : (j < i - k - 1) ∨ (i - k - 1 < j ∧ j + 1 < i) ∨ (i - k - 1 < j ∧ j + 1 = i) ∨ (i ≤ j ∧ j < i + n - m - 1) ∨ (i + n - m - 1 < j ∧ j + 1 < n) ∨ (i + n - m - 1 < j ∧ j + 1 = n)) with r | r | r | r | r | r
    · have e1 : cutF n i k m false j = k + 1 + j := by unfold cutF; rw [if_pos (by omega)]
      have e2 : cutF n i k m false (sucN n j) = k + 1 + j + 1 := by rw [show sucN n j = j + 1 by unfold sucN; rw [if_neg (by omega)]]; unfold cutF; rw [if_pos (by omega)]; omega
      have e3 : cutP n i k m false j = k + 1 + j := by unfold cutP; rw [if_pos (by omega)]
      have e4 : sucN n (k + 1 + j) = k + 1 + j + 1 := by unfold sucN; rw [if_neg (by omega)]
      rw [e1, e2, e3, e4]
      exact ⟨fun _ => ⟨rfl, rfl⟩, fun w => by simp at w⟩
    · have e1 : cutF n i k m false j = j - (i - k) := by unfold cutF; rw [if_neg (by omega), if_pos (by omega)]
      have e2 : cutF n i k m false (sucN n j) = j - (i - k) + 1 := by rw [show sucN n j = j + 1 by unfold sucN; rw [if_neg (by omega)]]; unfold cutF; rw [if_neg (by omega), if_pos (by omega)]; omega
      have e3 : cutP n i k m false j = j - (i - k) := by unfold cutP; rw [if_neg (by omega), if_neg (by omega), if_pos (by omega)]
      have e4 : sucN n (j - (i - k)) = j - (i - k) + 1 := by unfold sucN; rw [if_neg (by omega)]
      rw [e1, e2, e3, e4]
      exact ⟨fun _ => ⟨rfl, rfl⟩, fun w => by simp at w⟩
    · have e1 : cutF n i k m false j = j - (i - k) := by unfold cutF; rw [if_neg (by omega), if_pos (by omega)]
      have e2 : cutF n i k m false (sucN n j) = sucN n m := by rw [show sucN n j = j + 1 by unfold sucN; rw [if_neg (by omega)]]; unfold cutF sucN; rw [if_neg (by omega), if_neg (by omega), if_neg (by simp)]; split <;> split <;> (try split) <;> omega
      have e3 : cutP n i k m false j = j - (i - k) := by unfold cutP; rw [if_neg (by omega), if_neg (by omega), if_pos (by omega)]
      have e4 : sucN n (j - (i - k)) = k := by unfold sucN; rw [if_neg (by omega)]; omega
      rw [e1, e2, e3, e4, hg.1]
      exact ⟨fun _ => ⟨rfl, rfl⟩, fun w => by simp at w⟩
    · have e1 : cutF n i k m false j = m + 1 + (j - i) := by unfold cutF; rw [if_neg (by omega), if_neg (by omega), if_neg (by simp), if_pos (by omega)]
      have e2 : cutF n i k m false (sucN n j) = sucN n (m + 1 + (j - i)) := by rw [show sucN n j = j + 1 by unfold sucN; rw [if_neg (by omega)]]; unfold cutF sucN; rw [if_neg (by omega), if_neg (by omega), if_neg (by simp)]; split <;> split <;> (try split) <;> omega
      have e3 : cutP n i k m false j = m + 1 + (j - i) := by unfold cutP; rw [if_neg (by omega), if_neg (by omega), if_neg (by omega), if_neg (by simp), if_pos (by omega)]
      rw [e1, e2, e3]
      exact ⟨fun _ => ⟨rfl, rfl⟩, fun w => by simp at w⟩
    · have e1 : cutF n i k m false j = j - (n - m) := by unfold cutF; rw [if_neg (by omega), if_neg (by omega), if_neg (by simp), if_neg (by omega), if_neg (by omega)]
      have e2 : cutF n i k m false (sucN n j) = j - (n - m) + 1 := by rw [show sucN n j = j + 1 by unfold sucN; rw [if_neg (by omega)]]; unfold cutF; rw [if_neg (by omega), if_neg (by omega), if_neg (by simp), if_neg (by omega), if_neg (by omega)]; omega
      have e3 : cutP n i k m false j = j - (n - m) := by unfold cutP; rw [if_neg (by omega), if_neg (by omega), if_neg (by omega), if_neg (by simp), if_neg (by omega), if_neg (by omega)]
      have e4 : sucN n (j - (n - m)) = j - (n - m) + 1 := by unfold sucN; rw [if_neg (by omega)]
      rw [e1, e2, e3, e4]
      exact ⟨fun _ => ⟨rfl, rfl⟩, fun w => by simp at w⟩
    · have e1 : cutF n i k m false j = j - (n - m) := by unfold cutF; rw [if_neg (by omega), if_neg (by omega), if_neg (by simp), if_neg (by omega), if_neg (by omega)]
      have e2 : cutF n i k m false (sucN n j) = k + 1 := by rw [show sucN n j = 0 by unfold sucN; rw [if_pos (by omega)]]; unfold cutF; rw [if_pos (by omega)]
      have e3 : cutP n i k m false j = j - (n - m) := by unfold cutP; rw [if_neg (by omega), if_neg (by omega), if_neg (by omega), if_neg (by simp), if_neg (by omega), if_neg (by omega)]
      have e4 : sucN n (j - (n - m)) = m := by unfold sucN; rw [if_neg (by omega)]; omega
      rw [e1, e2, e3, e4, hg.2]
      exact ⟨fun _ => ⟨rfl, rfl⟩, fun w => by simp at w⟩
set_option maxHeartbeats 4000000 in
/-- The ends of the new letter's sides. -/
theorem cutF_new (h : CutN n i k m) (hg : GlueK n k m e c) :
    c (cutF n i k m e (i - k - 1)) = c i ∧ c (cutF n i k m e (sucN n (i - k - 1))) = c 0 ∧ Ends (e = false) (c (cutF n i k m e (cutY n i m e))) (c (cutF n i k m e (sucN n (cutY n i m e)))) (c i) (c 0) := by
  obtain ⟨q1, q2, q3, q4⟩ := h
  have e1 : cutF n i k m e (i - k - 1) = i := by unfold cutF; rw [if_pos (by omega)]; omega
  have e2 : sucN n (i - k - 1) = i - k := by unfold sucN; rw [if_neg (by omega)]; omega
  rw [e1, e2]
  cases e with
  | true =>
    unfold GlueK at hg
    rw [if_pos rfl] at hg
    unfold cutY
    rw [if_pos rfl]
    have e3 : cutF n i k m true m = i := by unfold cutF; rw [if_neg (by omega), if_neg (by omega), if_pos rfl, if_pos (by omega)]; omega
    refine ⟨rfl, ?_, fun _ => ⟨by rw [e3], ?_⟩, fun w => by cases w⟩
    · unfold cutF
      by_cases z : k = 0
      · subst z
        rw [if_neg (by omega), if_neg (by omega), if_pos rfl, if_pos (by omega), hg.1]
        congr 1; omega
      · rw [if_neg (by omega), if_pos (by omega)]
        congr 1; omega
    · by_cases z : m + 1 = n
      · have e4 : sucN n m = 0 := by unfold sucN; rw [if_pos z]
        have e5 : cutF n i k m true 0 = k + 1 := by unfold cutF; rw [if_pos (by omega)]
        rw [e4, e5, hg.2, e4]
      · have e4 : sucN n m = m + 1 := by unfold sucN; rw [if_neg z]
        have e5 : cutF n i k m true (m + 1) = 0 := by unfold cutF; rw [if_neg (by omega), if_neg (by omega), if_pos rfl, if_neg (by omega), if_pos rfl]
        rw [e4, e5]
  | false =>
    unfold GlueK at hg
    rw [if_neg (by simp)] at hg
    unfold cutY
    rw [if_neg (by simp)]
    have e3 : cutF n i k m false (i + n - m - 1) = 0 := by unfold cutF; rw [if_neg (by omega), if_neg (by omega), if_neg (by simp), if_neg (by omega), if_pos rfl]
    refine ⟨rfl, ?_, fun w => absurd rfl w, fun _ => ⟨by rw [e3], ?_⟩⟩
    · unfold cutF
      by_cases z : k = 0
      · subst z
        rw [if_neg (by omega), if_neg (by omega), if_neg (by simp)]
        by_cases y : m + 1 = n
        · rw [if_neg (by omega), if_pos (by omega)]
        · rw [if_pos (by omega), hg.1]
          congr 1
          unfold sucN; rw [if_neg y]; omega
      · rw [if_neg (by omega), if_pos (by omega)]
        congr 1; omega
    · by_cases z : i = m
      · have e4 : sucN n (i + n - m - 1) = 0 := by unfold sucN; rw [if_pos (by omega)]
        have e5 : cutF n i k m false 0 = k + 1 := by unfold cutF; rw [if_pos (by omega)]
        rw [e4, e5, hg.2, z]
      · have e4 : sucN n (i + n - m - 1) = i + n - m := by unfold sucN; rw [if_neg (by omega)]; omega
        have e5 : cutF n i k m false (i + n - m) = i := by unfold cutF; rw [if_neg (by omega), if_neg (by omega), if_neg (by simp), if_neg (by omega), if_neg (by omega)]; omega
        rw [e4, e5]
end
/-! ### The cut undone is a cut -/
theorem CutN.back {n i k m : Nat} (h : CutN n i k m) (e : Bool) : CutN n i (i - k - 1) (cutY n i m e) := by
  obtain ⟨h1, h2, h3, h4⟩ := h
  unfold cutY
  cases e with
  | true => rw [if_pos rfl]; exact ⟨by omega, by omega, by omega, by omega⟩
  | false => rw [if_neg (by simp)]; exact ⟨by omega, by omega, by omega, by omega⟩
theorem cutY_back {n i k m : Nat} (h : CutN n i k m) (e : Bool) : cutY n i (cutY n i m e) e = m := by
  obtain ⟨h1, h2, h3, h4⟩ := h
  unfold cutY
  cases e with
  | true => rw [if_pos rfl, if_pos rfl]
  | false => rw [if_neg (by simp), if_neg (by simp)]; omega
set_option maxHeartbeats 4000000 in
theorem cutQ_back {n i k m : Nat} (h : CutN n i k m) (e : Bool) {x : Nat} (hx : x < n) : cutP n i (i - k - 1) (cutY n i m e) e x = cutQ n i k m e x := by
  obtain ⟨h1, h2, h3, h4⟩ := h
  unfold cutP cutQ cutY
  cases e with
  | true =>
    simp only [if_true]
    repeat' split
    all_goals omega
  | false =>
    simp only [Bool.false_eq_true, if_false]
    repeat' split
    all_goals omega
theorem cutP_back {n i k m : Nat} (h : CutN n i k m) (e : Bool) {x : Nat} (hx : x < n) : cutQ n i (i - k - 1) (cutY n i m e) e x = cutP n i k m e x := by
  have := cutQ_back (h.back e) e hx
  rw [cutY_back h, show i - (i - k - 1) - 1 = k by have := h.hk; omega] at this
  exact this.symm
set_option maxHeartbeats 4000000 in
theorem cutP_ge {n i k m : Nat} (h : CutN n i k m) (e : Bool) {j : Nat} (hj : j < n) (h1 : j ≠ i - k - 1) (h2 : j ≠ cutY n i m e) : i ≤ cutP n i k m e j ↔ i ≤ j := by
  obtain ⟨q1, q2, q3, q4⟩ := h
  unfold cutY at h2
  cases e with
  | true =>
    rw [if_pos rfl] at h2
    have : (j < i - k - 1 ∧ cutP n i k m true j = k + 1 + j) ∨ (i - k - 1 < j ∧ j < i ∧ cutP n i k m true j = j - (i - k)) ∨
        (i ≤ j ∧ j < m ∧ cutP n i k m true j = i + m - 1 - j) ∨ (m < j ∧ cutP n i k m true j = n + m - j) := by
      unfold cutP
      simp only [if_true]
      repeat' split
      all_goals omega
    omega
  | false =>
    rw [if_neg (by simp)] at h2
    have : (j < i - k - 1 ∧ cutP n i k m false j = k + 1 + j) ∨ (i - k - 1 < j ∧ j < i ∧ cutP n i k m false j = j - (i - k)) ∨
        (i ≤ j ∧ j < i + n - m - 1 ∧ cutP n i k m false j = m + 1 + (j - i)) ∨ (i + n - m - 1 < j ∧ cutP n i k m false j = j - (n - m)) := by
      unfold cutP
      simp only [Bool.false_eq_true, if_false]
      repeat' split
      all_goals omega
    omega
theorem cutP_spot {n i k m : Nat} (h : CutN n i k m) (e : Bool) : cutP n i k m e (i - k - 1) = k ∧ cutP n i k m e (cutY n i m e) = m ∧ cutY n i m e < n ∧ i ≤ cutY n i m e := by
  obtain ⟨q1, q2, q3, q4⟩ := h
  unfold cutY
  cases e with
  | true =>
    rw [if_pos rfl]
    refine ⟨?_, ?_, q4, q3⟩
    · unfold cutP; rw [if_neg (by omega), if_pos rfl]
    · unfold cutP; rw [if_neg (by omega), if_neg (by omega), if_neg (by omega), if_pos rfl, if_neg (by omega), if_pos rfl]
  | false =>
    rw [if_neg (by simp)]
    refine ⟨?_, ?_, by omega, by omega⟩
    · unfold cutP; rw [if_neg (by omega), if_pos rfl]
    · unfold cutP; rw [if_neg (by omega), if_neg (by omega), if_neg (by omega), if_neg (by simp), if_neg (by omega), if_pos rfl]
theorem cutQ_spot {n i k m : Nat} (h : CutN n i k m) (e : Bool) : cutQ n i k m e k = i - k - 1 ∧ cutQ n i k m e m = cutY n i m e := by
  obtain ⟨s1, s2, s3, s4⟩ := cutP_spot h e
  have hk := h.hk
  have hi := h.hi
  have h1 := ((cutPQ h e).1 (i - k - 1) (by omega)).2
  have h2 := ((cutPQ h e).1 _ s3).2
  rw [s1] at h1
  rw [s2] at h2
  exact ⟨h1, h2⟩
theorem iff_twice {A B : Prop} : B ↔ (A ↔ (A ↔ B)) := by
  by_cases a : A <;> by_cases b : B <;> simp [a, b]
set_option maxHeartbeats 4000000 in
theorem cutFG {n i k m : Nat} {e : Bool} {c : Nat → Nat} (h : CutN n i k m) (hg : GlueK n k m e c) {a : Nat} (ha : a < n) : c (cutF n i k m e (cutF n i (i - k - 1) (cutY n i m e) e a)) = c a := by
  obtain ⟨q1, q2, q3, q4⟩ := h
  have cg : ∀ {a b : Nat}, a = b → c a = c b := fun w => congrArg c w
  unfold cutY
  cases e with
  | true =>
    unfold GlueK at hg
    rw [if_pos rfl] at hg ⊢
    rcases (by omega : a < k ∨ a = k ∨ (k < a ∧ a < i) ∨ (i ≤ a ∧ a ≤ m) ∨ a = m + 1 ∨ m + 1 < a) with r | r | r | r | r | r
    · have e1 : cutF n i (i - k - 1) m true a = i - k + a := by unfold cutF; rw [if_pos (by omega)]; omega
      rw [e1]
      refine cg ?_
      unfold cutF; rw [if_neg (by omega), if_pos (by omega)]; omega
    · have e1 : cutF n i (i - k - 1) m true a = i := by unfold cutF; rw [if_pos (by omega)]; omega
      have e2 : cutF n i k m true i = m := by unfold cutF; rw [if_neg (by omega), if_neg (by omega), if_pos rfl, if_pos (by omega)]; omega
      rw [e1, e2, r, hg.1]
    · have e1 : cutF n i (i - k - 1) m true a = a - k - 1 := by unfold cutF; rw [if_neg (by omega), if_pos (by omega)]; omega
      rw [e1]
      refine cg ?_
      unfold cutF; rw [if_pos (by omega)]; omega
    · have e1 : cutF n i (i - k - 1) m true a = i + m - a := by unfold cutF; rw [if_neg (by omega), if_neg (by omega), if_pos rfl, if_pos (by omega)]
      rw [e1]
      refine cg ?_
      unfold cutF; rw [if_neg (by omega), if_neg (by omega), if_pos rfl, if_pos (by omega)]; omega
    · have e1 : cutF n i (i - k - 1) m true a = 0 := by unfold cutF; rw [if_neg (by omega), if_neg (by omega), if_pos rfl, if_neg (by omega), if_pos (by omega)]
      have e2 : cutF n i k m true 0 = k + 1 := by unfold cutF; rw [if_pos (by omega)]
      rw [e1, e2, hg.2]
      refine cg ?_
      unfold sucN; rw [if_neg (by omega)]; omega
    · have e1 : cutF n i (i - k - 1) m true a = n + m + 1 - a := by unfold cutF; rw [if_neg (by omega), if_neg (by omega), if_pos rfl, if_neg (by omega), if_neg (by omega)]
      rw [e1]
      refine cg ?_
      unfold cutF; rw [if_neg (by omega), if_neg (by omega), if_pos rfl, if_neg (by omega), if_neg (by omega)]; omega
  | false =>
    unfold GlueK at hg
    rw [if_neg (by simp)] at hg ⊢
    rcases (by omega : a < k ∨ a = k ∨ (k < a ∧ a < i) ∨ (i ≤ a ∧ a < m) ∨ a = m ∨ m < a) with r | r | r | r | r | r
    · have e1 : cutF n i (i - k - 1) (i + n - m - 1) false a = i - k + a := by unfold cutF; rw [if_pos (by omega)]; omega
      rw [e1]
      refine cg ?_
      unfold cutF; rw [if_neg (by omega), if_pos (by omega)]; omega
    · have e1 : cutF n i (i - k - 1) (i + n - m - 1) false a = i := by unfold cutF; rw [if_pos (by omega)]; omega
      have e2 : cutF n i k m false i = sucN n m := by unfold cutF sucN; rw [if_neg (by omega), if_neg (by omega), if_neg (by simp)]; split <;> split <;> (try split) <;> omega
      rw [e1, e2, r, hg.1]
    · have e1 : cutF n i (i - k - 1) (i + n - m - 1) false a = a - k - 1 := by unfold cutF; rw [if_neg (by omega), if_pos (by omega)]; omega
      rw [e1]
      refine cg ?_
      unfold cutF; rw [if_pos (by omega)]; omega
    · have e1 : cutF n i (i - k - 1) (i + n - m - 1) false a = n - m + a := by unfold cutF; rw [if_neg (by omega), if_neg (by omega), if_neg (by simp), if_pos (by omega)]; omega
      rw [e1]
      refine cg ?_
      unfold cutF; rw [if_neg (by omega), if_neg (by omega), if_neg (by simp), if_neg (by omega), if_neg (by omega)]; omega
    · have e1 : cutF n i (i - k - 1) (i + n - m - 1) false a = 0 := by unfold cutF; rw [if_neg (by omega), if_neg (by omega), if_neg (by simp), if_neg (by omega), if_pos (by omega)]
      have e2 : cutF n i k m false 0 = k + 1 := by unfold cutF; rw [if_pos (by omega)]
      rw [e1, e2, r, hg.2]
    · have e1 : cutF n i (i - k - 1) (i + n - m - 1) false a = i + a - m - 1 := by unfold cutF; rw [if_neg (by omega), if_neg (by omega), if_neg (by simp), if_neg (by omega), if_neg (by omega)]; omega
      rw [e1]
      refine cg ?_
      unfold cutF; rw [if_neg (by omega), if_neg (by omega), if_neg (by simp), if_pos (by omega)]; omega
theorem cutF_lt {n i k m : Nat} (h : CutN n i k m) (e : Bool) {j : Nat} (hj : j < n) : cutF n i k m e j < n := by
  obtain ⟨q1, q2, q3, q4⟩ := h
  unfold cutF
  repeat' split
  all_goals omega
/-! ### Colours that the one polygon's gluing keeps are kept by the other's -/
structure CutR (n i k m : Nat) (e : Bool) (p p' : Nat → Nat) (S S' : Nat → Prop) : Prop where
  pl : ∀ x, x < n → p x < n ∧ p (p x) = x
  pk : p k = m
  sk : S k ↔ e = true
  sm : S m ↔ e = true
  pe : ∀ j, j < n → p' j = cutQ n i k m e (p (cutP n i k m e j))
  se : ∀ j, j < n → j ≠ i - k - 1 → j ≠ cutY n i m e → (S' j ↔ (((e = true ∧ i ≤ cutP n i k m e j) ↔ (e = true ∧ i ≤ p (cutP n i k m e j))) ↔ S (cutP n i k m e j)))
  sb : S' (i - k - 1) ↔ e = true
  sy : S' (cutY n i m e) ↔ e = true
theorem CutR.spots {n i k m : Nat} {e : Bool} {p p' : Nat → Nat} {S S' : Nat → Prop} (h : CutN n i k m) (r : CutR n i k m e p p' S S') : p' (i - k - 1) = cutY n i m e ∧ p' (cutY n i m e) = i - k - 1 := by
  obtain ⟨s1, s2, s3, s4⟩ := cutP_spot h e
  have hk := h.hk
  have hi := h.hi
  have hkm := (r.pl k (by omega)).2
  constructor
  · rw [r.pe _ (by omega), s1, r.pk, (cutQ_spot h e).2]
  · rw [r.pe _ s3, s2]
    have := hkm
    rw [r.pk] at this
    rw [this, (cutQ_spot h e).1]
theorem CutR.off {n i k m : Nat} {e : Bool} {p p' : Nat → Nat} {S S' : Nat → Prop} (h : CutN n i k m) (r : CutR n i k m e p p' S S') {j : Nat} (hj : j < n) (h1 : j ≠ i - k - 1) (h2 : j ≠ cutY n i m e) :
    p' j < n ∧ cutP n i k m e (p' j) = p (cutP n i k m e j) ∧ p' j ≠ i - k - 1 ∧ p' j ≠ cutY n i m e := by
  obtain ⟨s1, s2, s3, s4⟩ := cutP_spot h e
  have hk := h.hk
  have hi := h.hi
  obtain ⟨P, Q⟩ := cutPQ h e
  have hx := (P j hj).1
  have hpx := r.pl _ hx
  have hq := Q _ hpx.1
  rw [← r.pe j hj] at hq
  refine ⟨hq.1, hq.2, fun w => h2 ?_, fun w => h1 ?_⟩
  · have e1 : p (cutP n i k m e j) = k := by rw [← hq.2, w, s1]
    have e2 : cutP n i k m e j = m := by rw [← hpx.2, e1, r.pk]
    rw [← (P j hj).2, e2, (cutQ_spot h e).2]
  · have e1 : p (cutP n i k m e j) = m := by rw [← hq.2, w, s2]
    have e2 : cutP n i k m e j = k := by rw [← hpx.2, e1, ← r.pk, (r.pl k (by omega)).2]
    rw [← (P j hj).2, e2, (cutQ_spot h e).1]
theorem glueK_of {n i k m : Nat} {e : Bool} {p p' : Nat → Nat} {S S' : Nat → Prop} {c : Nat → Nat} (h : CutN n i k m) (r : CutR n i k m e p p' S S') (hc : InvE (EGd n p S) c) : GlueK n k m e c := by
  rw [EGd_inv] at hc
  have hk := h.hk
  have hi := h.hi
  have := hc k (by omega)
  rw [r.pk, show sucN n k = k + 1 by unfold sucN; rw [if_neg (by omega)]] at this
  unfold GlueK
  cases e with
  | true => rw [if_pos rfl]; exact this.1 (r.sk.2 rfl)
  | false => rw [if_neg (by simp)]; exact this.2 (fun w => by have := r.sk.1 w; cases this)
theorem cut_inv {n i k m : Nat} {e : Bool} {p p' : Nat → Nat} {S S' : Nat → Prop} {c : Nat → Nat} (h : CutN n i k m) (r : CutR n i k m e p p' S S') (hc : InvE (EGd n p S) c) : InvE (EGd n p' S') (fun j => c (cutF n i k m e j)) := by
  have hg := glueK_of h r hc
  obtain ⟨s1, s2, s3, s4⟩ := cutP_spot h e
  have hk := h.hk
  have hi := h.hi
  obtain ⟨b1, b2, b3⟩ := cutF_new h hg
  obtain ⟨r1, r2⟩ := r.spots h
  rw [EGd_inv] at hc ⊢
  intro j hj
  by_cases hb : j = i - k - 1
  · subst hb
    rw [r1]
    have b0 : Ends False (c (cutF n i k m e (i - k - 1))) (c (cutF n i k m e (sucN n (i - k - 1)))) (c i) (c 0) := ⟨fun _ => ⟨b1, b2⟩, fun w => w.elim⟩
    refine pair_move (S := True) b0 b3 ⟨fun _ => ⟨rfl, rfl⟩, fun w => absurd trivial w⟩ ?_
    rw [r.sb]
    cases e <;> simp
  by_cases hy : j = cutY n i m e
  · subst hy
    rw [r2]
    have b0 : Ends False (c (cutF n i k m e (i - k - 1))) (c (cutF n i k m e (sucN n (i - k - 1)))) (c i) (c 0) := ⟨fun _ => ⟨b1, b2⟩, fun w => w.elim⟩
    refine pair_move (S := True) b3 b0 ⟨fun _ => ⟨rfl, rfl⟩, fun w => absurd trivial w⟩ ?_
    rw [r.sy]
    cases e <;> simp
  obtain ⟨o1, o2, o3, o4⟩ := r.off h hj hb hy
  have e1 := cutF_side h hg hj hb hy
  have e2 := cutF_side h hg o1 o3 o4
  rw [o2] at e2
  have hx := ((cutPQ h e).1 j hj).1
  refine pair_move e1 e2 (hc _ hx) ?_
  rw [r.se j hj hb hy]
  have g1 := cutP_ge h e hj hb hy
  have g2 := cutP_ge h e o1 o3 o4
  rw [o2] at g2
  rw [g1, g2]
theorem CutR.back {n i k m : Nat} {e : Bool} {p p' : Nat → Nat} {S S' : Nat → Prop} (h : CutN n i k m) (r : CutR n i k m e p p' S S') : CutR n i (i - k - 1) (cutY n i m e) e p' p S' S := by
  obtain ⟨s1, s2, s3, s4⟩ := cutP_spot h e
  have hk := h.hk
  have hi := h.hi
  have hm := h.hm
  obtain ⟨P, Q⟩ := cutPQ h e
  obtain ⟨r1, r2⟩ := r.spots h
  have hkk : i - (i - k - 1) - 1 = k := by omega
  refine ⟨fun x hx => ?_, r1, r.sb, r.sy, fun x hx => ?_, fun x hx h1 h2 => ?_, by rw [hkk]; exact r.sk, by rw [cutY_back h]; exact r.sm⟩
  · have a1 := (P x hx).1
    have a2 := r.pl _ a1
    have a3 := Q _ a2.1
    rw [r.pe x hx]
    refine ⟨a3.1, ?_⟩
    rw [r.pe _ a3.1, a3.2, a2.2, (P x hx).2]
  · have a0 := Q x hx
    have a1 := r.pl x hx
    have a2 := Q _ a1.1
    have a3 : p' (cutQ n i k m e x) = cutQ n i k m e (p x) := by rw [r.pe _ a0.1, a0.2]
    rw [cutQ_back h e hx, a3, cutP_back h e a2.1, a2.2]
  · rw [hkk] at h1
    rw [cutY_back h] at h2
    have a0 := Q x hx
    have z1 : cutQ n i k m e x ≠ i - k - 1 := fun w => h1 (by rw [← a0.2, w, s1])
    have z2 : cutQ n i k m e x ≠ cutY n i m e := fun w => h2 (by rw [← a0.2, w, s2])
    have hse := r.se _ a0.1 z1 z2
    obtain ⟨o1, o2, o3, o4⟩ := r.off h a0.1 z1 z2
    have g1 := cutP_ge h e a0.1 z1 z2
    have g2 := cutP_ge h e o1 o3 o4
    rw [o2] at g2
    rw [a0.2] at hse g1 g2
    rw [cutQ_back h e hx, hse, ← g1, ← g2]
    exact iff_twice
theorem cut_cls {n i k m : Nat} {e : Bool} {p p' : Nat → Nat} {S S' : Nat → Prop} (h : CutN n i k m) (r : CutR n i k m e p p' S S') : clsN (EGd n p' S') n = clsN (EGd n p S) n := by
  have hB := h.back e
  have rB := r.back h
  have hkk : i - (i - k - 1) - 1 = k := by have := h.hk; omega
  refine cls_same (fun j a => a = cutF n i k m e j ∨ j = cutF n i (i - k - 1) (cutY n i m e) e a) (fun j hj => ⟨_, cutF_lt h e hj, .inl rfl⟩) (fun a ha => ⟨_, cutF_lt hB e ha, .inr rfl⟩) (fun c hc => ⟨_, cut_inv h r hc, fun j a hj ha hr => ?_⟩) (fun c hc => ⟨_, cut_inv hB rB hc, fun j a hj ha hr => ?_⟩)
  · rcases hr with rfl | rfl
    · rfl
    · exact cutFG h (glueK_of h r hc) ha
  · rcases hr with rfl | rfl
    · have := cutFG hB (glueK_of hB rB hc) hj
      rw [hkk, cutY_back h] at this
      exact this.symm
    · rfl

end Go.Proofs.YtpfnchjbbagmdaaDoor.M
