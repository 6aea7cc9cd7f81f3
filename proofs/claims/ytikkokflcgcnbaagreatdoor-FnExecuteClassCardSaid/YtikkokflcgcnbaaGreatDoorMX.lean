import Derived.Test.YtikkokflcgcnbaaGreatDoorMW
set_option linter.unusedVariables false
set_option linter.unusedSimpArgs false
namespace Go.Proofs.YtikkokflcgcnbaaGreatDoor.M
open Go.RowKit Go.Proofs.YtikkokflcgcnbaaGreatDoorW.PrintWords

/-! ### Two sides stay -/
theorem turn_sided {s : ByteArray} (h : WSD s) : WSD (turnS s) := by
  have hz := h.1.size
  obtain ⟨h1, h2⟩ := turn_ok h.1
  refine ⟨h1, fun i hi => ?_⟩
  rw [turnS_size (by omega)] at hi
  have hs := (sucN_spec hi).1
  have hp := (par_spec h.1 hs).1
  rw [turn_sm hi, h2 i hi, turn_sm (preN_spec hp).1, (preN_spec hp).2]
  exact h.2 _ hs
theorem back_sided {s : ByteArray} (h : WSD s) : WSD (backS s) := by
  have hz := h.1.size
  obtain ⟨h1, h2⟩ := back_ok h.1
  refine ⟨h1, fun i hi => ?_⟩
  rw [backS_size] at hi
  have hp := (par_spec h.1 (i := s.size - 1 - i) (by omega)).1
  rw [back_sm h.1 hi, h2 i hi, back_sm h.1 (by omega), show s.size - 1 - (s.size - 1 - par s (s.size - 1 - i)) = par s (s.size - 1 - i) by omega]
  have := h.2 (s.size - 1 - i) (by omega)
  intro e
  exact this (Bool.not_inj e)
theorem nam_sided {s : ByteArray} (h : WSD s) (q : Nat) (hq : 2 * q + s.size ≤ 10) : WSD (namS s q) := by
  obtain ⟨h1, h2⟩ := nam_ok h.1 q hq
  refine ⟨h1, fun i hi => ?_⟩
  rw [namS_size] at hi
  rw [h2 i hi]
  intro e
  exact h.2 i hi ((nam_sm h.1 q hq hi).1 e)
theorem hand_sided {n : Nat} (h : n = 0 ∨ n = 2 ∨ n = 4) : WSD (handS n) := by
  rcases h with rfl | rfl | rfl <;> decide +kernel
theorem norm_sided {s : ByteArray} (h : WSD s) : WSD (normS s) := by
  unfold normS; rw [if_pos h]; exact hand_sided (nnW_sided h)
def twoS (s : ByteArray) : ByteArray := s.extract 0 1 ++ s.extract 0 1
theorem twoS_size {s : ByteArray} (h : 1 ≤ s.size) : (twoS s).size = 2 := by
  unfold twoS; rw [ByteArray.size_append, ByteArray.size_extract]; omega
theorem bt_twoS {s : ByteArray} (h : 1 ≤ s.size) (i : Nat) (hi : i < 2) : bt (twoS s) (i : Int) = bt s ((0 : Nat) : Int) := by
  have hz : (s.extract 0 1).size = 1 := by rw [ByteArray.size_extract]; omega
  unfold twoS
  by_cases e : i = 0
  · rw [e, bt_append_left _ _ 0 (by omega), bt_extract s 0 1 0 (by omega) h]
  · have := bt_append_right (s.extract 0 1) (s.extract 0 1) 0 (by omega)
    rw [hz] at this
    rw [show i = 1 + 0 by omega, this, bt_extract s 0 1 0 (by omega) h]
theorem twoS_ok {s : ByteArray} (hw : WOK s) : WOK (twoS s) := by
  have hz := hw.size
  have h2 := twoS_size (s := s) (by omega)
  have hl : ∀ i, i < 2 → wl (twoS s) i = wl s 0 := fun i hi => by unfold wl; rw [bt_twoS (by omega) i hi]
  refine (WOK.of (t := twoS s) (by omega) (fun i => 1 - i) (fun i hi => ?_)).1
  rw [h2] at hi ⊢
  refine ⟨by rw [hl i hi]; exact (hw.2 0 (by omega)).1, by omega, by omega, by rw [hl i hi, hl _ (by omega)], fun k hk hki _ => by omega⟩
def othS (s : ByteArray) : ByteArray := (backS (twoS s)).extract 0 1 ++ s.extract 1 s.size
theorem othS_size {s : ByteArray} (hw : WOK s) : (othS s).size = s.size := by
  have hz := hw.size
  unfold othS
  rw [ByteArray.size_append, ByteArray.size_extract, ByteArray.size_extract, backS_size, twoS_size (by omega)]; omega
theorem bt_othS {s : ByteArray} (hw : WOK s) {i : Nat} (hi : i < s.size) : bt (othS s) (i : Int) = if i = 0 then fl (bt s (i : Int)) else bt s (i : Int) := by
  have hz := hw.size
  have h2 := twoS_size (s := s) (by omega)
  have he : ((backS (twoS s)).extract 0 1).size = 1 := by rw [ByteArray.size_extract, backS_size, h2]; omega
  unfold othS
  by_cases e : i = 0
  · rw [if_pos e, e, bt_append_left _ _ 0 (by omega), bt_extract _ 0 1 0 (by omega) (by rw [backS_size, h2]; omega), bt_backS (twoS_ok hw).all (by omega), h2, bt_twoS (by omega) _ (by omega)]
  · rw [if_neg e]
    have := bt_append_right ((backS (twoS s)).extract 0 1) (s.extract 1 s.size) (i - 1) (by rw [ByteArray.size_extract]; omega)
    rw [he, show 1 + (i - 1) = i by omega] at this
    rw [this, bt_extract s 1 s.size (i - 1) (by omega) (Nat.le_refl _), show 1 + (i - 1) = i by omega]
theorem oth_ok {s : ByteArray} (hw : WOK s) : WOK (othS s) ∧ ∀ i, i < s.size → par (othS s) i = par s i := by
  have hl : ∀ i, i < s.size → wl (othS s) i = wl s i := fun i hi => by
    unfold wl; rw [bt_othS hw hi]
    split
    · exact (fl_slet _ (hw.2 i hi).1).1
    · rfl
  exact hw.map (othS_size hw) (fun i => i) (fun i => i) (fun i hi => ⟨hi, rfl⟩) (fun i hi => ⟨hi, rfl⟩) (fun i hi => by rw [hl i hi]; exact (hw.2 i hi).1) (fun i j hi hj => by rw [hl i hi, hl j hj])
theorem oth_unsided {s : ByteArray} (h : WSD s) : ¬ WSD (othS s) := by
  have hz := h.1.size
  intro k
  have h0 := k.2 0 (by rw [othS_size h.1]; omega)
  obtain ⟨p1, p2, p3, p4⟩ := par_spec h.1 (i := 0) (by omega)
  rw [(oth_ok h.1).2 0 (by omega)] at h0
  have e1 : wsm (othS s) 0 = !wsm s 0 := by
    unfold wsm; rw [bt_othS h.1 (by omega), if_pos rfl]; exact (fl_slet _ (h.1.2 0 (by omega)).1).2.2.2.1
  have e2 : wsm (othS s) (par s 0) = wsm s (par s 0) := by
    unfold wsm; rw [bt_othS h.1 p1, if_neg p2]
  rw [e1, e2] at h0
  have h1 := h.2 0 (by omega)
  revert h0 h1
  cases wsm s 0 <;> cases wsm s (par s 0) <;> simp

end Go.Proofs.YtikkokflcgcnbaaGreatDoor.M
