import Derived.Test.YtjebcgbmlbemcaaGreatDoorME
import Derived.Test.YtjebcgbmlbemcaaGreatDoorMP
set_option linter.unusedVariables false
set_option linter.unusedSimpArgs false
namespace Go.Proofs.YtjebcgbmlbemcaaGreatDoor.M
open Go.RowKit Go.Proofs.YtjebcgbmlbemcaaGreatDoorW.PrintWords

/-! ### The corners of a word with two sides are the cycles of a permutation -/
def piW (s : ByteArray) (i : Nat) : Nat := sucN s.size (par s i)
theorem piW_con {s : ByteArray} (hw : WSD s) {i j : Nat} (hi : i < s.size) (hj : j < s.size) : ConE (EF s.size (piW s)) i j ↔ ConW s (2 * i) (2 * j) := by
  have hz := hw.1.size
  constructor
  · intro h c hc
    have hinv : InvE (EF s.size (piW s)) (fun z => ind (c (2 * z) = c (2 * i))) := by
      rintro a b ⟨ha, rfl⟩
      obtain ⟨p1, p2, p3, p4⟩ := par_spec hw.1 ha
      have e1 := (con_opp hw.1 ha (hw.2 a ha)).1 c hc
      have e2 := con_next (s := s) p1 c hc
      have e3 : c (2 * a) = c (2 * piW s a) := e1.trans e2
      simp only [e3]
    exact (of_ind (h _ hinv) rfl).symm
  · intro h c hc
    obtain ⟨col, ev, od⟩ : ∃ col : Nat → Int, (∀ q : Nat, col (2 * q) = (c q : Int)) ∧ (∀ q : Nat, col (2 * q + 1) = (c (sucN s.size q) : Int)) :=
      ⟨fun z => if z % 2 = 0 then ((c (z / 2) : Nat) : Int) else ((c (sucN s.size (z / 2)) : Nat) : Int), fun q => by
        show (if (2 * q) % 2 = 0 then ((c ((2 * q) / 2) : Nat) : Int) else ((c (sucN s.size ((2 * q) / 2)) : Nat) : Int)) = _
        rw [if_pos (by omega), show 2 * q / 2 = q by omega], fun q => by
        show (if (2 * q + 1) % 2 = 0 then ((c ((2 * q + 1) / 2) : Nat) : Int) else ((c (sucN s.size ((2 * q + 1) / 2)) : Nat) : Int)) = _
        rw [if_neg (by omega), show (2 * q + 1) / 2 = q by omega]⟩
    have hinv : Inv2 (2 * s.size) (folL s) (gluL s) col := by
      intro z hz2
      rw [fn_folL hz2, fn_gluL hz2]
      obtain ⟨i, hi, e⟩ : ∃ i, i < s.size ∧ (z = 2 * i ∨ z = 2 * i + 1) := ⟨z / 2, by omega, by omega⟩
      obtain ⟨p1, p2, p3, p4⟩ := par_spec hw.1 hi
      have hpp := par_par hw.1 hi
      have hopp := hw.2 i hi
      have c1 : c i = c (sucN s.size (par s i)) := hc i _ ⟨hi, rfl⟩
      have c2 : c (par s i) = c (sucN s.size i) := by
        have := hc (par s i) _ ⟨p1, rfl⟩
        rw [this]; unfold piW; rw [hpp]
      rcases e with rfl | rfl
      · rw [(glu_at s i).1, if_neg hopp, ev, od, c1]
        refine ⟨?_, rfl⟩
        by_cases e0 : i = 0
        · subst e0
          have : folF s.size (2 * 0) = 2 * (s.size - 1) + 1 := by
            unfold folF; rw [if_neg (by omega), Nat.mod_eq_of_lt (by omega)]; omega
          rw [this, od, ← c1]
          unfold sucN; rw [if_pos (by omega)]
        · have : folF s.size (2 * i) = 2 * (i - 1) + 1 := by
            unfold folF; rw [if_neg (by omega), show 2 * i + 2 * s.size - 1 = (2 * (i - 1) + 1) + 2 * s.size by omega, Nat.add_mod_right, Nat.mod_eq_of_lt (by omega)]
          rw [this, od, ← c1]
          have : sucN s.size (i - 1) = i := by unfold sucN; rw [if_neg (by omega)]; omega
          rw [this]
      · rw [(glu_at s i).2, if_neg hopp, ev, od, c2]
        refine ⟨?_, rfl⟩
        rw [(fol_at s.size i hi).1]
        by_cases e0 : i + 1 = s.size
        · rw [show 2 * i + 2 = 2 * s.size by omega, Nat.mod_self]
          have := ev 0
          rw [Nat.mul_zero] at this
          rw [this]; unfold sucN; rw [if_pos e0]
        · rw [Nat.mod_eq_of_lt (by omega), show 2 * i + 2 = 2 * (i + 1) by omega, ev]
          unfold sucN; rw [if_neg e0]
    have := h _ hinv
    rw [ev, ev] at this
    omega
theorem cntP_shift (p q : Nat → Bool) : ∀ m, p 0 = true → (∀ i, i < m → p (i + 1) = q i) → cntP p (m + 1) = 1 + cntP q m
  | 0, h, _ => by simp [cntP, h]
  | m + 1, h, k => by
    have := cntP_shift p q m h (fun i hi => k i (by omega))
    have h2 := k m (by omega)
    rw [show cntP p (m + 1 + 1) = cntP p (m + 1) + (if p (m + 1) = true then 1 else 0) from rfl, this, h2]
    simp only [cntP]; omega
theorem corners_cyc {s : ByteArray} (hw : WSD s) : corners s = cyc s.size (piW s) := by
  have hz := hw.1.size
  rw [corners_eq hw.1]
  have h0 : lstB (EF s.size (piW s)) 0 = true := lstB_iff.2 (fun j hj => by omega)
  have hsh : ∀ i, i < s.size - 1 → lstB (EF s.size (piW s)) (i + 1) = fixB s (2 * i + 1) := by
    intro i hi
    have hn := con_next (s := s) (i := i) (by omega)
    rw [show sucN s.size i = i + 1 by unfold sucN; rw [if_neg (by omega)]] at hn
    rw [Bool.eq_iff_iff, lstB_iff]
    constructor
    · intro h
      refine fixB_of (by omega) (fun j hj hc => ?_)
      by_cases e : j % 2 = 0
      · refine h (j / 2) (by omega) ((piW_con hw (by omega) (by omega)).2 ?_)
        rw [show 2 * (j / 2) = j by omega]
        exact hn.symm.trans hc
      · have hn2 := con_next (s := s) (i := j / 2) (by omega)
        rw [show sucN s.size (j / 2) = j / 2 + 1 by unfold sucN; rw [if_neg (by omega)], show 2 * (j / 2) + 1 = j by omega] at hn2
        exact h (j / 2 + 1) (by omega) ((piW_con hw (by omega) (by omega)).2 (hn.symm.trans (hc.trans hn2)))
    · intro hf j hj hc
      have := fixB_le (by omega) hf (by omega) (hn.trans ((piW_con hw (by omega) (by omega)).1 hc))
      omega
  have hlast : fixB s (2 * (s.size - 1) + 1) = false := by
    cases hq : fixB s (2 * (s.size - 1) + 1) with
    | false => rfl
    | true =>
      have hn := con_next (s := s) (i := s.size - 1) (by omega)
      rw [show sucN s.size (s.size - 1) = 0 by unfold sucN; rw [if_pos (by omega)]] at hn
      have := fixB_le (by omega) hq (by omega) hn
      omega
  have h1 := cntP_shift (lstB (EF s.size (piW s))) (fun i => fixB s (2 * i + 1)) (s.size - 1) h0 hsh
  rw [show s.size - 1 + 1 = s.size by omega] at h1
  have h2 : cntP (fun i => fixB s (2 * i + 1)) s.size = cntP (fun i => fixB s (2 * i + 1)) (s.size - 1) := by
    obtain ⟨m, hm⟩ : ∃ m, s.size = m + 1 := ⟨s.size - 1, by omega⟩
    rw [hm] at hlast ⊢
    simp only [cntP, Nat.add_sub_cancel] at *
    rw [if_neg (by rw [hlast]; simp)]; rfl
  unfold cyc clsN
  rw [h1, h2]
theorem suc_perm (n : Nat) : PermN n (sucN n) (preN n) := ⟨fun i hi => (sucN_spec hi).1, fun i hi => (preN_spec hi).1, fun i hi => (sucN_spec hi).2, fun i hi => (preN_spec hi).2⟩
theorem cyc_suc (n : Nat) (h : 0 < n) : cyc n (sucN n) = 1 := by
  have hc : ∀ i, i < n → ConE (EF n (sucN n)) 0 i := by
    intro i
    induction i with
    | zero => intro _; exact ConE.refl 0
    | succ i ih =>
      intro hi
      refine (ih (by omega)).trans (ConE.step ⟨by omega, ?_⟩)
      unfold sucN; rw [if_neg (by omega)]
  refine cntP_first _ (lstB_iff.2 (fun j hj => by omega)) n (fun i h0 hi => ?_) h
  cases hq : lstB (EF n (sucN n)) i with
  | false => rfl
  | true => exact absurd (hc i hi).symm (lstB_iff.1 hq 0 h0)
theorem euler_even {s : ByteArray} (hw : WSD s) : (corners s + s.size / 2) % 2 = 1 := by
  have hz := hw.1.size
  have hh := nf_half hw.1
  have h1 := (cyc_inv (suc_perm s.size) (h := par s) (fun i hi => by
    obtain ⟨p1, p2, p3, p4⟩ := par_spec hw.1 hi
    exact ⟨p1, par_par hw.1 hi, p2⟩)).1
  rw [cyc_suc s.size (by omega), ← nf_cnt] at h1
  rw [corners_cyc hw]
  have : (fun z => sucN s.size (par s z)) = piW s := rfl
  rw [this] at h1
  omega

end Go.Proofs.YtjebcgbmlbemcaaGreatDoor.M
