import Derived.Test.YtjebcgbmlbemcaaGreatDoorMK
import Derived.Test.YtjebcgbmlbemcaaGreatDoorMV
set_option linter.unusedVariables false
set_option linter.unusedSimpArgs false
namespace Go.Proofs.YtjebcgbmlbemcaaGreatDoor.M
open Go.RowKit Go.Proofs.YtjebcgbmlbemcaaGreatDoorW.PrintWords

/-! ### How many corners a word has -/
theorem cntP_double (p : Nat → Bool) : ∀ n, cntP p (2 * n) = cntP (fun i => p (2 * i)) n + cntP (fun i => p (2 * i + 1)) n
  | 0 => rfl
  | n + 1 => by
    have := cntP_double p n
    rw [show 2 * (n + 1) = 2 * n + 1 + 1 by omega]
    simp only [cntP]
    omega
theorem cntP_first (p : Nat → Bool) (h0 : p 0 = true) : ∀ n, (∀ i, 0 < i → i < n → p i = false) → 0 < n → cntP p n = 1
  | 0, _, h => by omega
  | 1, _, _ => by simp [cntP, h0]
  | n + 2, h, _ => by
    have := cntP_first p h0 (n + 1) (fun i h1 h2 => h i h1 (by omega)) (by omega)
    have hn := h (n + 1) (by omega) (by omega)
    simp only [cntP] at *
    rw [hn]; simp; omega
noncomputable abbrev lowW (s : ByteArray) (j : Nat) : Nat := low (2 * s.size) (folL s) (gluL s) j
abbrev ConW (s : ByteArray) (i j : Nat) : Prop := Con (2 * s.size) (folL s) (gluL s) i j
theorem fn_folL {s : ByteArray} {j : Nat} (h : j < 2 * s.size) : fn (folL s) j = folF s.size j := by unfold fn; rw [rd_folL s j h]; rfl
theorem fn_gluL {s : ByteArray} {j : Nat} (h : j < 2 * s.size) : fn (gluL s) j = gluF s j := by unfold fn; rw [rd_gluL s j h]; rfl
theorem con_fol {s : ByteArray} {j : Nat} (h : j < 2 * s.size) : ConW s j (folF s.size j) := by
  have := Con.fa (a := folL s) (b := gluL s) h
  rwa [fn_folL h] at this
theorem con_glu {s : ByteArray} {j : Nat} (h : j < 2 * s.size) : ConW s j (gluF s j) := by
  have := Con.fb (a := folL s) (b := gluL s) h
  rwa [fn_gluL h] at this
/-- The end of a side and the beginning of the next one. -/
theorem con_next {s : ByteArray} {i : Nat} (h : i < s.size) : ConW s (2 * i + 1) (2 * sucN s.size i) := by
  have := con_fol (s := s) (j := 2 * i + 1) (by omega)
  rw [(fol_at s.size i h).1] at this
  unfold sucN
  by_cases e : i + 1 = s.size
  · rw [if_pos e]; rwa [show 2 * i + 2 = 2 * s.size by omega, Nat.mod_self] at this
  · rw [if_neg e]; rwa [Nat.mod_eq_of_lt (by omega)] at this
theorem con_same {s : ByteArray} (hw : WOK s) {i : Nat} (h : i < s.size) (e : wsm s i = wsm s (par s i)) : ConW s (2 * i) (2 * par s i) ∧ ConW s (2 * i + 1) (2 * par s i + 1) := by
  have h1 := con_glu (s := s) (j := 2 * i) (by omega)
  have h2 := con_glu (s := s) (j := 2 * i + 1) (by omega)
  rw [(glu_at s i).1, if_pos e] at h1
  rw [(glu_at s i).2, if_pos e] at h2
  exact ⟨h1, h2⟩
theorem con_opp {s : ByteArray} (hw : WOK s) {i : Nat} (h : i < s.size) (e : ¬ wsm s i = wsm s (par s i)) : ConW s (2 * i) (2 * par s i + 1) ∧ ConW s (2 * i + 1) (2 * par s i) := by
  have h1 := con_glu (s := s) (j := 2 * i) (by omega)
  have h2 := con_glu (s := s) (j := 2 * i + 1) (by omega)
  rw [(glu_at s i).1, if_neg e] at h1
  rw [(glu_at s i).2, if_neg e] at h2
  exact ⟨h1, h2⟩
noncomputable def fixB (s : ByteArray) (j : Nat) : Bool := decide (j = lowW s j)
theorem fixB_le {s : ByteArray} {i j : Nat} (hi : i < 2 * s.size) (hf : fixB s i = true) (hj : j < 2 * s.size) (hc : ConW s i j) : i ≤ j := by
  have h1 := of_decide_eq_true hf
  have h2 := (low_spec (a := folL s) (b := gluL s) hi).2.2 j hj hc
  simp only [lowW] at h1
  omega
theorem fixB_of {s : ByteArray} {i : Nat} (hi : i < 2 * s.size) (h : ∀ j, j < i → ¬ ConW s i j) : fixB s i = true := by
  obtain ⟨h1, h2, h3⟩ := low_spec (a := folL s) (b := gluL s) hi
  refine decide_eq_true ?_
  show i = low (2 * s.size) (folL s) (gluL s) i
  refine Classical.byContradiction fun hne => ?_
  exact h _ (by omega) h2
theorem corners_eq {s : ByteArray} (hw : WOK s) : corners s = 1 + cntP (fun i => fixB s (2 * i + 1)) s.size := by
  have hz := hw.size
  have h1 : corners s = cntP (fixB s) (2 * s.size) := by
    unfold corners fixN
    refine cntP_congr _ _ _ (fun j hj => ?_)
    rw [rd_orbL _ _ j (by rw [folL_length]; exact hj), folL_length]
    unfold fixB
    rw [decide_eq_decide]
    exact ⟨fun h => by simp only [lowW]; omega, fun h => by simp only [lowW] at h; omega⟩
  rw [h1, cntP_double]
  have h0 : fixB s 0 = true := fixB_of (by omega) (fun j hj => by omega)
  rw [cntP_first (fun i => fixB s (2 * i)) h0 s.size (fun i h0 hi => by
    cases hq : fixB s (2 * i) with
    | false => rfl
    | true =>
      have hc := con_next (s := s) (i := i - 1) (by omega)
      rw [show sucN s.size (i - 1) = i by unfold sucN; rw [if_neg (by omega)]; omega] at hc
      have := fixB_le (by omega) hq (by omega) hc.symm
      omega) (by omega)]
/-- Only the end of a side that stands first may be a new corner. -/
theorem fix_first {s : ByteArray} (hw : WOK s) {i : Nat} (hi : i < s.size) (hf : fixB s (2 * i + 1) = true) : i < par s i := by
  obtain ⟨p1, p2, p3, p4⟩ := par_spec hw hi
  refine Classical.byContradiction fun hn => ?_
  by_cases e : wsm s i = wsm s (par s i)
  · have := fixB_le (by omega) hf (by omega) (con_same hw hi e).2; omega
  · have := fixB_le (by omega) hf (by omega) (con_opp hw hi e).2; omega
theorem euler_le {s : ByteArray} (hw : WOK s) : 2 * corners s ≤ s.size + 2 := by
  have h1 := cntP_mono (fun i => fixB s (2 * i + 1)) (fun j => decide (j < par s j)) s.size (fun i hi hf => decide_eq_true (fix_first hw hi hf))
  have h2 := nf_half hw
  rw [nf_cnt] at h2
  rw [corners_eq hw]; omega
theorem corners_pos {s : ByteArray} (hw : WOK s) : 1 ≤ corners s := by rw [corners_eq hw]; omega
theorem cntP_eq_all (p q : Nat → Bool) : ∀ n, (∀ i, i < n → p i = true → q i = true) → cntP p n = cntP q n → ∀ i, i < n → q i = true → p i = true := by
  intro n h he i hi hq
  cases hp : p i with
  | true => rfl
  | false => have := cntP_lt p q n h ⟨i, hi, hp, hq⟩; omega
/-- On which side of the edge of the side a the corner i lies, where all edges are those of a tree. -/
def side_ (s : ByteArray) (a : Nat) : Nat → Bool
  | 0 => false
  | i + 1 => if h : par s i < i then (if wsm s i = wsm s (par s i) then side_ s a (par s i + 1) else side_ s a (par s i)) else (decide (i = a) || side_ s a i)
  termination_by i => i
  decreasing_by all_goals omega
theorem side_first {s : ByteArray} {a i : Nat} (h : ¬ par s i < i) : side_ s a (i + 1) = (decide (i = a) || side_ s a i) := by
  rw [side_, dif_neg h]
theorem side_second {s : ByteArray} {a i : Nat} (h : par s i < i) : side_ s a (i + 1) = if wsm s i = wsm s (par s i) then side_ s a (par s i + 1) else side_ s a (par s i) := by
  rw [side_, dif_pos h]
/-- The end number of corner i: its side's beginning; behind the last side: the end of that. -/
def cor (s : ByteArray) (i : Nat) : Nat := if i = 0 then 0 else 2 * (i - 1) + 1
theorem cor_lt {s : ByteArray} {i : Nat} (h0 : 0 < s.size) (h : i ≤ s.size) : cor s i < 2 * s.size := by unfold cor; split <;> omega
theorem cor_con {s : ByteArray} {i : Nat} (h : i < s.size) : ConW s (2 * i) (cor s i) := by
  unfold cor
  by_cases e : i = 0
  · rw [if_pos e, e]; exact Con.refl 0
  · rw [if_neg e]
    have := con_next (s := s) (i := i - 1) (by omega)
    rw [show sucN s.size (i - 1) = i by unfold sucN; rw [if_neg (by omega)]; omega] at this
    exact this.symm
theorem cor_succ {s : ByteArray} {i : Nat} : cor s (i + 1) = 2 * i + 1 := by unfold cor; rw [if_neg (by omega)]; omega
theorem euler_unsided {s : ByteArray} (hw : WOK s) (hu : ¬ WSD s) : 2 * corners s ≤ s.size := by
  have hz := hw.size
  have hev := hw.even
  have hle := euler_le hw
  refine Classical.byContradiction fun hn => ?_
  have hmono : ∀ i, i < s.size → fixB s (2 * i + 1) = true → decide (i < par s i) = true := fun i hi hf => decide_eq_true (fix_first hw hi hf)
  have h2 := nf_half hw
  rw [nf_cnt] at h2
  have hcount : cntP (fun i => fixB s (2 * i + 1)) s.size = cntP (fun j => decide (j < par s j)) s.size := by
    have := corners_eq hw
    omega
  have hnew : ∀ i, i < s.size → i < par s i → fixB s (2 * i + 1) = true := fun i hi hp =>
    cntP_eq_all (fun i => fixB s (2 * i + 1)) (fun j => decide (j < par s j)) s.size hmono hcount i hi (decide_eq_true hp)
  -- a letter whose sides are glued in the same direction
  obtain ⟨a, b, hab, hb, hpar, hsm⟩ : ∃ a b, a < b ∧ b < s.size ∧ par s a = b ∧ wsm s a = wsm s b := by
    have : ¬ ∀ i, i < s.size → wsm s i ≠ wsm s (par s i) := fun h => hu ⟨hw, h⟩
    obtain ⟨i, hi⟩ := Classical.not_forall.1 this
    obtain ⟨hi, h3⟩ := Classical.not_imp.1 hi
    have h4 : wsm s i = wsm s (par s i) := Classical.not_not.1 h3
    obtain ⟨p1, p2, p3, p4⟩ := par_spec hw hi
    by_cases e : i < par s i
    · exact ⟨i, par s i, e, p1, rfl, h4⟩
    · exact ⟨par s i, i, by omega, hi, par_par hw hi, h4.symm⟩
  have ha : a < s.size := by omega
  have hpb : par s b = a := by rw [← hpar]; exact par_par hw ha
  -- corners that are one lie on one side
  have key : ∀ m, m ≤ s.size → ∀ i j, i ≤ m → j ≤ m → ConW s (cor s i) (cor s j) → side_ s a i = side_ s a j := by
    intro m
    induction m with
    | zero => intro _ i j hi hj _; rw [show i = 0 by omega, show j = 0 by omega]
    | succ m ih =>
      intro hm i j hi hj hc
      have hms : m < s.size := by omega
      -- the last corner against an earlier one
      have last : ∀ j, j ≤ m → ConW s (cor s (m + 1)) (cor s j) → side_ s a (m + 1) = side_ s a j := by
        intro j hj hc
        by_cases hp : par s m < m
        · rw [side_second hp]
          by_cases e : wsm s m = wsm s (par s m)
          · rw [if_pos e]
            refine ih (by omega) _ _ (by omega) hj ?_
            have h1 := (con_same hw hms e).2
            rw [cor_succ] at hc ⊢
            exact h1.symm.trans hc
          · rw [if_neg e]
            refine ih (by omega) _ _ (by omega) hj ?_
            have h1 := (con_opp hw hms e).2
            rw [cor_succ] at hc
            exact (cor_con (by omega)).symm.trans (h1.symm.trans hc)
        · have hf := hnew m hms (by have := (par_spec hw hms).2.1; omega)
          rw [cor_succ] at hc
          have := fixB_le (by omega) hf (cor_lt (by omega) (by omega)) hc
          unfold cor at this
          split at this <;> omega
      by_cases ei : i = m + 1
      · by_cases ej : j = m + 1
        · rw [ei, ej]
        · rw [ei] at hc ⊢; exact last j (by omega) hc
      · by_cases ej : j = m + 1
        · rw [ej] at hc ⊢; exact (last i (by omega) hc.symm).symm
        · exact ih (by omega) i j (by omega) (by omega) hc
  have before : ∀ m, m ≤ a → side_ s a m = false := by
    intro m
    induction m using Nat.strongRecOn with
    | _ m ih =>
      intro hm
      cases m with
      | zero => rw [side_]
      | succ m =>
        by_cases hp : par s m < m
        · rw [side_second hp]
          split
          · exact ih _ (by omega) (by omega)
          · exact ih _ (by omega) (by omega)
        · rw [side_first hp, decide_eq_false (by omega), ih m (by omega) (by omega)]; rfl
  have behind : ∀ d, a + 1 + d ≤ b → side_ s a (a + 1 + d) = true := by
    intro d
    induction d with
    | zero =>
      intro _
      rw [Nat.add_zero, side_first (by omega), decide_eq_true rfl]; rfl
    | succ d ih =>
      intro hd
      have hprev := ih (by omega)
      generalize hi : a + 1 + d = i at hprev
      rw [show a + 1 + (d + 1) = i + 1 by omega]
      have his : i < s.size := by omega
      obtain ⟨p1, p2, p3, p4⟩ := par_spec hw his
      have hpp := par_par hw his
      by_cases hp : par s i < i
      · have hpa : par s i ≠ a := fun e => by rw [e, hpar] at hpp; omega
        have hfst : side_ s a (par s i + 1) = side_ s a (par s i) := by
          rw [side_first (by omega), decide_eq_false hpa]; rfl
        rw [side_second hp]
        by_cases e : wsm s i = wsm s (par s i)
        · rw [if_pos e, hfst, ← hprev]
          refine key s.size (Nat.le_refl _) _ _ (by omega) (by omega) ?_
          have h1 := (con_same hw his e).1
          exact (cor_con (by omega)).symm.trans (h1.symm.trans (cor_con his))
        · rw [if_neg e, ← hfst, ← hprev]
          refine key s.size (Nat.le_refl _) _ _ (by omega) (by omega) ?_
          have h1 := (con_opp hw his e).1
          rw [cor_succ]
          exact h1.symm.trans (cor_con his)
      · rw [side_first hp, hprev]; simp
  have e1 := behind (b - a - 1) (by omega)
  rw [show a + 1 + (b - a - 1) = b by omega] at e1
  have e2 := before a (Nat.le_refl _)
  have h1 := (con_same hw ha (by rw [hpar]; exact hsm)).1
  rw [hpar] at h1
  have e3 := key s.size (Nat.le_refl _) a b (by omega) (by omega) ((cor_con ha).symm.trans (h1.trans (cor_con hb)))
  rw [e1, e2] at e3
  cases e3

end Go.Proofs.YtjebcgbmlbemcaaGreatDoor.M
