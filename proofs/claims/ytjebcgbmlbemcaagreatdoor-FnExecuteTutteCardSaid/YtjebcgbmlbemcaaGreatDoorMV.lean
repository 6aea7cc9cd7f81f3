import Derived.Test.YtjebcgbmlbemcaaGreatDoorMC
import Derived.Test.YtjebcgbmlbemcaaGreatDoorMS
set_option linter.unusedVariables false
set_option linter.unusedSimpArgs false
namespace Go.Proofs.YtjebcgbmlbemcaaGreatDoor.M
open Go.RowKit Go.Proofs.YtjebcgbmlbemcaaGreatDoorW.PrintWords

/-! ### Words made of words -/
theorem wcnt_hits (s : ByteArray) (c : Int) (a b : Nat) (hab : a < b) (ha : wl s a = c) (hb : wl s b = c) (hu : ∀ j, wl s j = c → j < s.size → j = a ∨ j = b) : ∀ k, k ≤ s.size → wcnt s c k = (if a < k then 1 else 0) + (if b < k then 1 else 0)
  | 0, _ => by simp [wcnt]
  | k + 1, hk => by
    have ih := wcnt_hits s c a b hab ha hb hu k (by omega)
    simp only [wcnt]
    rw [ih]
    by_cases e : wl s k = c
    · rw [if_pos e]
      rcases hu k e (by omega) with rfl | rfl <;> (repeat' split) <;> omega
    · rw [if_neg e]
      have h1 : k ≠ a := fun h => e (h ▸ ha)
      have h2 : k ≠ b := fun h => e (h ▸ hb)
      (repeat' split) <;> omega
/-- A word, told by its partners. -/
theorem WOK.of {t : ByteArray} (h0 : 0 < t.size) (q : Nat → Nat) (h : ∀ i, i < t.size → 0 ≤ wl t i ∧ q i < t.size ∧ q i ≠ i ∧ wl t (q i) = wl t i ∧ ∀ k, k < t.size → k ≠ i → wl t k = wl t i → k = q i) : WOK t ∧ ∀ i, i < t.size → par t i = q i := by
  have hw : WOK t := by
    refine ⟨h0, fun i hi => ?_⟩
    obtain ⟨a1, a2, a3, a4, a5⟩ := h i hi
    refine ⟨a1, ?_⟩
    have hu : ∀ j, wl t j = wl t i → j < t.size → j = i ∨ j = q i := fun j hj hjs => by
      by_cases e : j = i
      · exact .inl e
      · exact .inr (a5 j hjs e hj)
    by_cases e : i < q i
    · rw [wcnt_hits t (wl t i) i (q i) e rfl a4 hu t.size (Nat.le_refl _), if_pos hi, if_pos a2]
    · rw [wcnt_hits t (wl t i) (q i) i (by omega) a4 rfl (fun j hj hjs => (hu j hj hjs).symm) t.size (Nat.le_refl _), if_pos a2, if_pos hi]
  refine ⟨hw, fun i hi => ?_⟩
  obtain ⟨a1, a2, a3, a4, a5⟩ := h i hi
  obtain ⟨p1, p2, p3, p4⟩ := par_spec hw hi
  exact a5 _ p1 p2 p3
theorem WOK.map {s t : ByteArray} (hw : WOK s) (hn : t.size = s.size) (σ τ : Nat → Nat) (hσ : ∀ i, i < s.size → σ i < s.size ∧ τ (σ i) = i) (hτ : ∀ i, i < s.size → τ i < s.size ∧ σ (τ i) = i)
    (hl : ∀ i, i < s.size → 0 ≤ wl t i) (he : ∀ i j, i < s.size → j < s.size → (wl t i = wl t j ↔ wl s (σ i) = wl s (σ j))) : WOK t ∧ ∀ i, i < s.size → par t i = τ (par s (σ i)) := by
  have := WOK.of (t := t) (by rw [hn]; exact hw.1) (fun i => τ (par s (σ i))) (fun i hi => by
    rw [hn] at hi
    obtain ⟨p1, p2, p3, p4⟩ := par_spec hw (hσ i hi).1
    obtain ⟨t1, t2⟩ := hτ _ p1
    refine ⟨hl i hi, by rw [hn]; exact t1, fun e => p2 (by rw [← t2, e]), ?_, fun k hk hki hke => ?_⟩
    · rw [he _ _ t1 hi, t2]; exact p3
    · rw [hn] at hk
      rw [he _ _ hk hi] at hke
      have := p4 (σ k) (hσ k hk).1 (fun e => hki (by rw [← (hσ k hk).2, e, (hσ i hi).2])) hke
      rw [← this, (hσ k hk).2])
  rw [hn] at this
  exact this
/-- The word without its first letter is none. -/
theorem WOK.even {s : ByteArray} (h : WOK s) : s.size % 2 = 0 := by
  have hsum := wcnt_sum s s.size (fun i hi => (h.2 i hi).1)
  have hc : ∀ c, wcnt s c s.size = 0 ∨ wcnt s c s.size = 2 := by
    intro c
    by_cases hz : wcnt s c s.size = 0
    · exact .inl hz
    · right
      obtain ⟨i, hi, hl⟩ : ∃ i, i < s.size ∧ wl s i = c := by
        refine Classical.byContradiction fun hno => hz ?_
        have : ∀ k, k ≤ s.size → wcnt s c k = 0 := by
          intro k
          induction k with
          | zero => intro _; rfl
          | succ k ih => intro hk; simp only [wcnt]; rw [ih (by omega), if_neg (fun e => hno ⟨k, by omega, e⟩)]
        exact this s.size (Nat.le_refl _)
      rw [← hl]; exact (h.2 i hi).2
  have c0 := hc 0
  have c1 := hc 1
  have c2 := hc 2
  have c3 := hc 3
  have c4 := hc 4
  omega
/-! ### Turned words -/
def turnS (s : ByteArray) : ByteArray := s.extract 1 s.size ++ s.extract 0 1
theorem turnS_size {s : ByteArray} (h : 1 ≤ s.size) : (turnS s).size = s.size := by
  unfold turnS; rw [ByteArray.size_append, ByteArray.size_extract, ByteArray.size_extract]; omega
theorem bt_turnS {s : ByteArray} {i : Nat} (hi : i < s.size) : bt (turnS s) (i : Int) = bt s ((if i + 1 = s.size then 0 else i + 1 : Nat) : Int) := by
  unfold turnS
  by_cases e : i + 1 = s.size
  · rw [if_pos e]
    have hz : (s.extract 1 s.size).size = i := by rw [ByteArray.size_extract]; omega
    have := bt_append_right (s.extract 1 s.size) (s.extract 0 1) 0 (by rw [ByteArray.size_extract]; omega)
    rw [hz] at this
    rw [show (i : Int) = ((i + 0 : Nat) : Int) from rfl, this, bt_extract s 0 1 0 (by omega) (by omega)]
  · rw [if_neg e, bt_append_left _ _ i (by rw [ByteArray.size_extract]; omega), bt_extract s 1 s.size i (by omega) (by omega), Nat.add_comm]
def sucN (n i : Nat) : Nat := if i + 1 = n then 0 else i + 1
def preN (n i : Nat) : Nat := if i = 0 then n - 1 else i - 1
theorem sucN_spec {n i : Nat} (h : i < n) : sucN n i < n ∧ preN n (sucN n i) = i := by
  unfold sucN preN
  by_cases e : i + 1 = n
  · rw [if_pos e]; simp; omega
  · rw [if_neg e, if_neg (by omega)]; omega
theorem preN_spec {n i : Nat} (h : i < n) : preN n i < n ∧ sucN n (preN n i) = i := by
  unfold sucN preN
  by_cases e : i = 0
  · rw [if_pos e, if_pos (by omega)]; omega
  · rw [if_neg e, if_neg (by omega)]; omega
theorem turn_ok {s : ByteArray} (hw : WOK s) : WOK (turnS s) ∧ ∀ i, i < s.size → par (turnS s) i = preN s.size (par s (sucN s.size i)) := by
  have hz := hw.size
  have hl : ∀ i, i < s.size → wl (turnS s) i = wl s (sucN s.size i) := fun i hi => by unfold wl; rw [bt_turnS hi]; rfl
  exact hw.map (turnS_size (by omega)) (sucN s.size) (preN s.size) (fun i hi => sucN_spec hi) (fun i hi => preN_spec hi)
    (fun i hi => by rw [hl i hi]; exact (hw.2 _ (sucN_spec hi).1).1) (fun i j hi hj => by rw [hl i hi, hl j hj])
/-! ### Words read back -/
theorem fl_slet (x : Int) (h : 0 ≤ slet x) : slet (fl x) = slet x ∧ 0 ≤ fl x ∧ fl x ≤ 255 ∧ (decide (fl x ≥ 97) = !decide (x ≥ 97)) ∧ fl (fl x) = x := by
  unfold slet at h
  by_cases a : x ≥ 97 ∧ x < 102
  · have e : fl x = x - 32 := by unfold fl; rw [if_pos a.1]
    have e2 : fl (x - 32) = x := by unfold fl; rw [if_neg (by omega)]; omega
    rw [e, e2]
    refine ⟨?_, by omega, by omega, ?_, rfl⟩
    · unfold slet; rw [if_neg (by omega), if_pos ⟨by omega, by omega⟩, if_pos a]; omega
    · rw [decide_eq_false (by omega), decide_eq_true a.1]; rfl
  · rw [if_neg a] at h
    by_cases b : x ≥ 65 ∧ x < 70
    · have e : fl x = x + 32 := by unfold fl; rw [if_neg (by omega)]
      have e2 : fl (x + 32) = x := by unfold fl; rw [if_pos (by omega)]; omega
      rw [e, e2]
      refine ⟨?_, by omega, by omega, ?_, rfl⟩
      · unfold slet; rw [if_pos ⟨by omega, by omega⟩, if_neg a, if_pos b]; omega
      · rw [decide_eq_true (by omega), decide_eq_false (by omega)]; rfl
    · rw [if_neg b] at h; omega
theorem backS_size (t : ByteArray) : (backS t).size = t.size := by unfold backS; rw [strOfNums_size]; simp [backN]
theorem bt_backS {t : ByteArray} (h : AllLet t) {i : Nat} (hi : i < t.size) : bt (backS t) (i : Int) = fl (bt t ((t.size - 1 - i : Nat) : Int)) := by
  have hg : (backN t t.size)[i]'(by simp [backN]; exact hi) = fl (bt t ((t.size - 1 - i : Nat) : Int)) := by simp [backN]
  have hf := fl_slet _ (h (t.size - 1 - i) (by omega))
  unfold backS
  rw [bt_strOfNums _ i (by simp [backN]; exact hi) (by rw [hg]; exact hf.2.1) (by rw [hg]; exact hf.2.2.1), hg]
theorem back_ok {s : ByteArray} (hw : WOK s) : WOK (backS s) ∧ ∀ i, i < s.size → par (backS s) i = s.size - 1 - par s (s.size - 1 - i) := by
  have hl : ∀ i, i < s.size → wl (backS s) i = wl s (s.size - 1 - i) := fun i hi => by
    unfold wl; rw [bt_backS hw.all hi]; exact (fl_slet _ (hw.2 _ (by omega)).1).1
  exact hw.map (backS_size s) (fun i => s.size - 1 - i) (fun i => s.size - 1 - i) (fun i hi => by omega) (fun i hi => by omega)
    (fun i hi => by rw [hl i hi]; exact (hw.2 _ (by omega)).1) (fun i j hi hj => by rw [hl i hi, hl j hj])
theorem back_sm {s : ByteArray} (hw : WOK s) {i : Nat} (hi : i < s.size) : wsm (backS s) i = !wsm s (s.size - 1 - i) := by
  unfold wsm; rw [bt_backS hw.all hi]; exact (fl_slet _ (hw.2 _ (by omega)).1).2.2.2.1
theorem turn_sm {s : ByteArray} {i : Nat} (hi : i < s.size) : wsm (turnS s) i = wsm s (sucN s.size i) := by
  unfold wsm; rw [bt_turnS hi]; rfl
/-! ### Words with new names -/
theorem nf_lt (s : ByteArray) : ∀ {i j : Nat}, i < j → i < par s i → nf s i < nf s j
  | i, 0, h, _ => by omega
  | i, j + 1, h, hp => by
    by_cases e : i = j
    · subst e; simp only [nf]; rw [if_pos hp]; omega
    · have := nf_lt s (i := i) (j := j) (by omega) hp
      simp only [nf]; omega
theorem fst_spec {s : ByteArray} (hw : WOK s) {i : Nat} (hi : i < s.size) : fst_ s i < s.size ∧ fst_ s i < par s (fst_ s i) ∧ wl s (fst_ s i) = wl s i ∧ (i = fst_ s i ∨ i = par s (fst_ s i)) := by
  obtain ⟨p1, p2, p3, p4⟩ := par_spec hw hi
  unfold fst_
  by_cases e : i < par s i
  · rw [if_pos e]; exact ⟨hi, e, rfl, .inl rfl⟩
  · rw [if_neg e, par_par hw hi]; exact ⟨p1, by omega, p3, .inr rfl⟩
theorem nf_cnt (s : ByteArray) : ∀ k, nf s k = cntP (fun j => decide (j < par s j)) k
  | 0 => rfl
  | k + 1 => by
    simp only [nf, cntP]
    rw [nf_cnt s k]
    by_cases e : k < par s k <;> simp [e]
theorem nf_half {s : ByteArray} (hw : WOK s) : 2 * nf s s.size = s.size := by
  have h1 := cntP_not (fun j => decide (j < par s j)) s.size
  have hb : ∀ i, i < s.size → par s i < s.size ∧ par s (par s i) = i := fun i hi => ⟨(par_spec hw hi).1, par_par hw hi⟩
  have h2 := cntP_perm (fun j => decide (j < par s j)) (par s) (par s) hb hb
  have h3 : cntP (fun i => decide (par s i < par s (par s i))) s.size = cntP (fun i => !decide (i < par s i)) s.size := cntP_congr _ _ _ (fun i hi => by
    have := (par_spec hw hi).2.1
    rw [par_par hw hi]
    by_cases e : i < par s i
    · rw [decide_eq_true e, decide_eq_false (by omega)]; rfl
    · rw [decide_eq_false e, decide_eq_true (by omega)]; rfl)
  rw [nf_cnt]
  rw [h3] at h2
  omega
theorem nf_mono (s : ByteArray) : ∀ {i j : Nat}, i ≤ j → nf s i ≤ nf s j
  | i, 0, h => by obtain rfl : i = 0 := by omega
                  exact Nat.le_refl _
  | i, j + 1, h => by
    by_cases e : i = j + 1
    · subst e; exact Nat.le_refl _
    · have := nf_mono s (i := i) (j := j) (by omega)
      simp only [nf]; omega
def namS (s : ByteArray) (q : Nat) : ByteArray := strOfNums (namesL s q)
theorem namS_size (s : ByteArray) (q : Nat) : (namS s q).size = s.size := by unfold namS; rw [strOfNums_size, namesL_length]
theorem nf_first {s : ByteArray} (hw : WOK s) {i : Nat} (hi : i < s.size) : 2 * (nf s (fst_ s i) + 1) ≤ s.size := by
  obtain ⟨f1, f2, f3, f4⟩ := fst_spec hw hi
  have h1 := nf_lt s f1 f2
  have h2 := nf_half hw
  omega
theorem nmb_rng {s : ByteArray} (hw : WOK s) {q i : Nat} (hi : i < s.size) (hq : 2 * q + s.size ≤ 10) : nmb s q i = (if wsm s i = wsm s (fst_ s i) then 97 + ((q + nf s (fst_ s i) : Nat) : Int) else 65 + ((q + nf s (fst_ s i) : Nat) : Int)) ∧ q + nf s (fst_ s i) < 5 := by
  have := nf_first hw hi
  refine ⟨?_, by omega⟩
  unfold nmb
  rw [show ((q + nf s (fst_ s i) : Nat) : Int) = (q : Int) + (nf s (fst_ s i) : Int) by omega]
theorem bt_namS {s : ByteArray} (hw : WOK s) {q i : Nat} (hi : i < s.size) (hq : 2 * q + s.size ≤ 10) : bt (namS s q) (i : Int) = nmb s q i := by
  obtain ⟨e, h⟩ := nmb_rng hw hi hq
  unfold namS
  rw [bt_strOfNums _ i (by rw [namesL_length]; exact hi) (by rw [namesL_get s q i hi, e]; split <;> omega) (by rw [namesL_get s q i hi, e]; split <;> omega), namesL_get s q i hi]
theorem wl_namS {s : ByteArray} (hw : WOK s) {q i : Nat} (hi : i < s.size) (hq : 2 * q + s.size ≤ 10) : wl (namS s q) i = ((q + nf s (fst_ s i) : Nat) : Int) ∧ wsm (namS s q) i = (wsm s i == wsm s (fst_ s i)) := by
  obtain ⟨e, h⟩ := nmb_rng hw hi hq
  obtain ⟨l1, l2⟩ := slet_small (c := ((q + nf s (fst_ s i) : Nat) : Int)) (by omega) (by omega)
  unfold wl wsm
  rw [bt_namS hw hi hq, e]
  by_cases c : wsm s i = wsm s (fst_ s i)
  · rw [if_pos c]; exact ⟨l1, by rw [decide_eq_true (by omega)]; exact (beq_iff_eq.2 c).symm⟩
  · rw [if_neg c]; exact ⟨l2, by rw [decide_eq_false (by omega)]; exact (beq_eq_false_iff_ne.2 c).symm⟩
theorem fst_inj {s : ByteArray} (hw : WOK s) {i j : Nat} (hi : i < s.size) (hj : j < s.size) : (nf s (fst_ s i) = nf s (fst_ s j) ↔ wl s i = wl s j) := by
  obtain ⟨f1, f2, f3, f4⟩ := fst_spec hw hi
  obtain ⟨g1, g2, g3, g4⟩ := fst_spec hw hj
  constructor
  · intro h
    have : fst_ s i = fst_ s j := by
      rcases Nat.lt_trichotomy (fst_ s i) (fst_ s j) with e | e | e
      · have := nf_lt s e f2; omega
      · exact e
      · have := nf_lt s e g2; omega
    rw [← f3, ← g3, this]
  · intro h
    have hw2 : wl s (fst_ s i) = wl s (fst_ s j) := by rw [f3, g3, h]
    have : fst_ s i = fst_ s j := by
      refine Classical.byContradiction fun hne => ?_
      have e1 := (par_spec hw g1).2.2.2 _ f1 hne hw2
      have e2 := (par_spec hw f1).2.2.2 _ g1 (Ne.symm hne) hw2.symm
      omega
    rw [this]
theorem nam_ok {s : ByteArray} (hw : WOK s) (q : Nat) (hq : 2 * q + s.size ≤ 10) : WOK (namS s q) ∧ ∀ i, i < s.size → par (namS s q) i = par s i :=
  hw.map (namS_size s q) (fun i => i) (fun i => i) (fun i hi => ⟨hi, rfl⟩) (fun i hi => ⟨hi, rfl⟩)
    (fun i hi => by rw [(wl_namS hw hi hq).1]; omega) (fun i j hi hj => by
      rw [(wl_namS hw hi hq).1, (wl_namS hw hj hq).1, ← fst_inj hw hi hj]; omega)
theorem nam_sm {s : ByteArray} (hw : WOK s) (q : Nat) (hq : 2 * q + s.size ≤ 10) {i : Nat} (hi : i < s.size) : (wsm (namS s q) i = wsm (namS s q) (par s i) ↔ wsm s i = wsm s (par s i)) := by
  have hp := (par_spec hw hi).1
  rw [(wl_namS hw hi hq).2, (wl_namS hw hp hq).2]
  have e : fst_ s (par s i) = fst_ s i := by
    have := (fst_inj hw hp hi).2 (par_spec hw hi).2.2.1
    obtain ⟨f1, f2, f3, f4⟩ := fst_spec hw hi
    obtain ⟨g1, g2, g3, g4⟩ := fst_spec hw hp
    rcases Nat.lt_trichotomy (fst_ s i) (fst_ s (par s i)) with e | e | e
    · have := nf_lt s e f2; omega
    · exact e.symm
    · have := nf_lt s e g2; omega
  rw [e]
  cases wsm s i <;> cases wsm s (par s i) <;> cases wsm s (fst_ s i) <;> simp

end Go.Proofs.YtjebcgbmlbemcaaGreatDoor.M
