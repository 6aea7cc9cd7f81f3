import Derived.Test.YtjebcgbmlbemcaaGreatDoorMQ
set_option linter.unusedVariables false
set_option linter.unusedSimpArgs false
namespace Go.Proofs.YtjebcgbmlbemcaaGreatDoor.M
open Go.RowKit Go.Proofs.YtjebcgbmlbemcaaGreatDoorW.PrintWords

/-! ### Classes told by other points -/
theorem sumN_hit (q : Nat → Prop) (m k : Nat) (hk : k < m) (hp : q k) (hu : ∀ i, i < m → q i → i = k) : sumN (fun i => ind (q i)) m = 1 := by
  rw [sumN_congr (g := fun i => if i = k then (fun _ => 1) i else 0) (fun i hi => ?_), sumN_single (fun _ => 1), if_pos hk]
  by_cases e : i = k
  · subst e; rw [if_pos rfl, ind_true hp]
  · rw [if_neg e]; exact ind_false (fun h => e (hu i hi h))
theorem sum_match (p q : Nat → Bool) (S : Nat → Nat → Prop) (n m : Nat) (he : ∀ i, i < n → p i = true → ∃ j, j < m ∧ q j = true ∧ S i j ∧ ∀ k, k < m → q k = true → S i k → k = j) :
    sumN (fun i => sumN (fun j => ind (p i = true ∧ q j = true ∧ S i j)) m) n = cntP p n := by
  rw [cntP_sum]
  refine sumN_congr fun i hi => ?_
  by_cases h : p i = true
  · rw [if_pos h]
    obtain ⟨j, h1, h2, h3, h4⟩ := he i hi h
    exact sumN_hit _ m j h1 ⟨h, h2, h3⟩ (fun k hk hq => h4 k hk hq.2.1 hq.2.2)
  · rw [if_neg h, sumN_congr (g := fun _ => 0) (fun j _ => ind_false (fun x => h x.1)), sumN_zero]
theorem cls_rel {E E' : Nat → Nat → Prop} {n m : Nat} (R : Nat → Nat → Prop) (h1 : ∀ i, i < n → ∃ j, j < m ∧ R i j) (h2 : ∀ j, j < m → ∃ i, i < n ∧ R i j)
    (key : ∀ i j i' j', i < n → j < m → i' < n → j' < m → R i j → R i' j' → (ConE E i i' ↔ ConE E' j j')) : clsN E n = clsN E' m := by
  have hS : ∃ S : Nat → Nat → Prop, ∀ i j, S i j ↔ ∃ a b, a < n ∧ b < m ∧ R a b ∧ ConE E i a ∧ ConE E' j b := ⟨fun i j => ∃ a b, a < n ∧ b < m ∧ R a b ∧ ConE E i a ∧ ConE E' j b, fun _ _ => Iff.rfl⟩
  obtain ⟨S, hS⟩ := hS
  have uE : ∀ {E : Nat → Nat → Prop} {i j : Nat}, lstB E i = true → lstB E j = true → ConE E i j → i = j := by
    intro E i j hi hj hc
    rw [lstB_iff] at hi hj
    refine Classical.byContradiction fun hne => ?_
    rcases Nat.lt_or_gt_of_ne hne with h | h
    · exact hj i h hc.symm
    · exact hi j h hc
  have lE : ∀ (E : Nat → Nat → Prop) (x : Nat), ∃ l, ConE E x l ∧ l ≤ x ∧ lstB E l = true := by
    intro E x
    obtain ⟨l, a, b, c⟩ := least_con E x
    exact ⟨l, a, b, lstB_iff.2 (fun j hj hc => absurd (c j (a.trans hc)) (by omega))⟩
  have e1 := sum_match (lstB E) (lstB E') S n m (fun i hi hp => by
    obtain ⟨b, hb, hr⟩ := h1 i hi
    obtain ⟨l, l1, l2, l3⟩ := lE E' b
    refine ⟨l, by omega, l3, (hS i l).2 ⟨i, b, hi, hb, hr, ConE.refl i, l1.symm⟩, fun k hk hq hs => ?_⟩
    obtain ⟨a', b', ha', hb', hr', c1, c2⟩ := (hS i k).1 hs
    have := (key i b a' b' hi hb ha' hb' hr hr').1 c1
    exact uE hq l3 (c2.trans (this.symm.trans l1)))
  have e2 := sum_match (lstB E') (lstB E) (fun j i => S i j) m n (fun j hj hp => by
    obtain ⟨a, ha, hr⟩ := h2 j hj
    obtain ⟨l, l1, l2, l3⟩ := lE E a
    refine ⟨l, by omega, l3, (hS l j).2 ⟨a, j, ha, hj, hr, l1.symm, ConE.refl j⟩, fun k hk hq hs => ?_⟩
    obtain ⟨a', b', ha', hb', hr', c1, c2⟩ := (hS k j).1 hs
    have := (key a j a' b' ha hj ha' hb' hr hr').2 c2
    exact uE hq l3 (c1.trans (this.symm.trans l1)))
  rw [sumN_swap] at e1
  unfold clsN
  rw [← e1, ← e2]
  exact sumN_congr fun j _ => sumN_congr fun i _ => ind_iff ⟨fun h => ⟨h.2.1, h.1, h.2.2⟩, fun h => ⟨h.2.1, h.1, h.2.2⟩⟩
theorem cls_same {E E' : Nat → Nat → Prop} {n m : Nat} (R : Nat → Nat → Prop) (h1 : ∀ i, i < n → ∃ j, j < m ∧ R i j) (h2 : ∀ j, j < m → ∃ i, i < n ∧ R i j)
    (ha : ∀ c', InvE E' c' → ∃ c, InvE E c ∧ ∀ i j, i < n → j < m → R i j → c i = c' j)
    (hb : ∀ c, InvE E c → ∃ c', InvE E' c' ∧ ∀ i j, i < n → j < m → R i j → c i = c' j) : clsN E n = clsN E' m := by
  refine cls_rel R h1 h2 (fun i j i' j' hi hj hi' hj' hr hr' => ⟨fun h c' hc' => ?_, fun h c hc => ?_⟩)
  · obtain ⟨c, c1, c2⟩ := ha c' hc'
    rw [← c2 i j hi hj hr, ← c2 i' j' hi' hj' hr']
    exact h c c1
  · obtain ⟨c', c1, c2⟩ := hb c hc
    rw [c2 i j hi hj hr, c2 i' j' hi' hj' hr']
    exact h c' c1
/-! ### The corners of a polygon: one before each side -/
def EGd (n : Nat) (p : Nat → Nat) (S : Nat → Prop) : Nat → Nat → Prop := fun a b => ∃ i, i < n ∧ ((S i ∧ ((a = i ∧ b = p i) ∨ (a = sucN n i ∧ b = sucN n (p i)))) ∨ (¬ S i ∧ ((a = i ∧ b = sucN n (p i)) ∨ (a = sucN n i ∧ b = p i))))
theorem EGd_inv {n : Nat} {p : Nat → Nat} {S : Nat → Prop} {c : Nat → Nat} : InvE (EGd n p S) c ↔ ∀ i, i < n → (S i → c i = c (p i) ∧ c (sucN n i) = c (sucN n (p i))) ∧ (¬ S i → c i = c (sucN n (p i)) ∧ c (sucN n i) = c (p i)) := by
  constructor
  · intro h i hi
    exact ⟨fun hs => ⟨h _ _ ⟨i, hi, .inl ⟨hs, .inl ⟨rfl, rfl⟩⟩⟩, h _ _ ⟨i, hi, .inl ⟨hs, .inr ⟨rfl, rfl⟩⟩⟩⟩, fun hs => ⟨h _ _ ⟨i, hi, .inr ⟨hs, .inl ⟨rfl, rfl⟩⟩⟩, h _ _ ⟨i, hi, .inr ⟨hs, .inr ⟨rfl, rfl⟩⟩⟩⟩⟩
  · rintro h a b ⟨i, hi, ⟨hs, (⟨rfl, rfl⟩ | ⟨rfl, rfl⟩)⟩ | ⟨hs, (⟨rfl, rfl⟩ | ⟨rfl, rfl⟩)⟩⟩
    · exact ((h _ hi).1 hs).1
    · exact ((h _ hi).1 hs).2
    · exact ((h _ hi).2 hs).1
    · exact ((h _ hi).2 hs).2
abbrev smW (s : ByteArray) (i : Nat) : Prop := wsm s i = wsm s (par s i)
abbrev EG (s : ByteArray) : Nat → Nat → Prop := EGd s.size (par s) (smW s)
def gapO (n e : Nat) : Nat := if e % 2 = 0 then e / 2 else sucN n (e / 2)
theorem gapO_ev (n i : Nat) : gapO n (2 * i) = i := by unfold gapO; rw [if_pos (by omega)]; omega
theorem gapO_od (n i : Nat) : gapO n (2 * i + 1) = sucN n i := by unfold gapO; rw [if_neg (by omega), show (2 * i + 1) / 2 = i by omega]
theorem gapO_fol {n z : Nat} (hz : z < 2 * n) : gapO n (folF n z) = gapO n z := by
  obtain ⟨i, hi, e⟩ : ∃ i, i < n ∧ (z = 2 * i ∨ z = 2 * i + 1) := ⟨z / 2, by omega, by omega⟩
  rcases e with rfl | rfl
  · rw [gapO_ev]
    by_cases e0 : i = 0
    · subst e0
      have : folF n (2 * 0) = 2 * (n - 1) + 1 := by
        unfold folF; rw [if_neg (by omega), Nat.mod_eq_of_lt (by omega)]; omega
      rw [this, gapO_od]; unfold sucN; rw [if_pos (by omega)]
    · have : folF n (2 * i) = 2 * (i - 1) + 1 := by
        unfold folF; rw [if_neg (by omega), show 2 * i + 2 * n - 1 = (2 * (i - 1) + 1) + 2 * n by omega, Nat.add_mod_right, Nat.mod_eq_of_lt (by omega)]
      rw [this, gapO_od]; unfold sucN; rw [if_neg (by omega)]; omega
  · rw [(fol_at n i hi).1, gapO_od]
    by_cases e0 : i + 1 = n
    · rw [show 2 * i + 2 = 2 * n by omega, Nat.mod_self]
      have := gapO_ev n 0
      rw [Nat.mul_zero] at this
      rw [this]; unfold sucN; rw [if_pos e0]
    · rw [Nat.mod_eq_of_lt (by omega), show 2 * i + 2 = 2 * (i + 1) by omega, gapO_ev]
      unfold sucN; rw [if_neg e0]
theorem sucN_lt {n i : Nat} (h : i < n) : sucN n i < n := (sucN_spec h).1
theorem corners_ends {s : ByteArray} : corners s = clsN (ConW s) (2 * s.size) := by
  unfold corners fixN clsN
  refine cntP_congr _ _ _ (fun j hj => ?_)
  have hcon : ∀ i k, ConE (ConW s) i k → ConW s i k := by
    intro i k h c hc
    have := h (fun z => ind (c z = c i)) (fun x y hxy => by
      have := hxy c hc
      show ind (c x = c i) = ind (c y = c i)
      rw [this])
    exact (of_ind this rfl).symm
  rw [Bool.eq_iff_iff, lstB_iff, rd_orbL _ _ _ (by rw [folL_length]; exact hj), folL_length]
  constructor
  · intro h k hk hc
    have hf : fixB s j = true := decide_eq_true (by have := of_decide_eq_true h; simp only [lowW]; omega)
    have := fixB_le hj hf (by omega) (hcon _ _ hc)
    omega
  · intro h
    have := of_decide_eq_true (fixB_of hj (fun k hk hc => h k hk (ConE.step hc)))
    simp only [lowW] at this
    exact decide_eq_true (by omega)
/-- The corners of a word, counted before the sides. -/
theorem corners_gap {s : ByteArray} (hw : WOK s) : corners s = clsN (EG s) s.size := by
  rw [corners_ends]
  refine cls_same (fun e g => g = gapO s.size e) (fun e he => ⟨_, ?_, rfl⟩) (fun g hg => ⟨2 * g, by omega, (gapO_ev _ g).symm⟩) (fun c' hc' => ?_) (fun c hc => ?_)
  · unfold gapO; split
    · omega
    · exact sucN_lt (by omega)
  · refine ⟨fun e => c' (gapO s.size e), fun x y hxy => ?_, fun i j _ _ e => by rw [e]⟩
    rw [EGd_inv] at hc'
    have hinv : Inv2 (2 * s.size) (folL s) (gluL s) (fun e => (c' (gapO s.size e) : Int)) := by
      intro z hz
      rw [fn_folL hz, fn_gluL hz]
      try simp only []
      rw [gapO_fol hz]
      refine ⟨rfl, ?_⟩
      obtain ⟨i, hi, e⟩ : ∃ i, i < s.size ∧ (z = 2 * i ∨ z = 2 * i + 1) := ⟨z / 2, by omega, by omega⟩
      have hk := hc' i hi
      by_cases hs : smW s i
      · obtain ⟨k1, k2⟩ := hk.1 hs
        rcases e with rfl | rfl
        · rw [(glu_at s i).1, if_pos hs, gapO_ev, gapO_ev, k1]
        · rw [(glu_at s i).2, if_pos hs, gapO_od, gapO_od, k2]
      · obtain ⟨k1, k2⟩ := hk.2 hs
        rcases e with rfl | rfl
        · rw [(glu_at s i).1, if_neg hs, gapO_ev, gapO_od, k1]
        · rw [(glu_at s i).2, if_neg hs, gapO_od, gapO_ev, k2]
    have := hxy _ hinv
    try simp only [] at this
    show c' (gapO s.size x) = c' (gapO s.size y)
    omega
  · have hn : ∀ i, i < s.size → c (2 * i + 1) = c (2 * sucN s.size i) := fun i hi => hc _ _ (con_next hi)
    refine ⟨fun g => c (2 * g), EGd_inv.2 (fun i hi => ?_), fun e g he _ er => ?_⟩
    · have hp := (par_spec hw hi).1
      refine ⟨fun hs => ?_, fun hs => ?_⟩
      · obtain ⟨a, b⟩ := con_same hw hi hs
        exact ⟨hc _ _ a, by rw [← hn i hi, ← hn _ hp]; exact hc _ _ b⟩
      · obtain ⟨a, b⟩ := con_opp hw hi hs
        exact ⟨by rw [← hn _ hp]; exact hc _ _ a, by rw [← hn i hi]; exact hc _ _ b⟩
    · subst er
      obtain ⟨i, hi, e'⟩ : ∃ i, i < s.size ∧ (e = 2 * i ∨ e = 2 * i + 1) := ⟨e / 2, by omega, by omega⟩
      rcases e' with rfl | rfl
      · rw [gapO_ev]
      · rw [gapO_od]; exact hn i hi
/-! ### Turned, reversed, renamed -/
theorem corners_move {s t : ByteArray} (hs : WOK s) (ht : WOK t) (hn : t.size = s.size) (φ ψ : Nat → Nat) (h1 : ∀ i, i < s.size → φ i < s.size ∧ ψ (φ i) = i) (h2 : ∀ i, i < s.size → ψ i < s.size ∧ φ (ψ i) = i)
    (ha : ∀ c, InvE (EG s) c → InvE (EG t) (fun j => c (φ j))) (hb : ∀ c, InvE (EG t) c → InvE (EG s) (fun j => c (ψ j))) : corners t = corners s := by
  rw [corners_gap hs, corners_gap ht, hn]
  refine cls_same (fun j i => i = φ j) (fun j hj => ⟨_, (h1 j hj).1, rfl⟩) (fun i hi => ⟨ψ i, (h2 i hi).1, (h2 i hi).2.symm⟩) (fun c hc => ⟨_, ha c hc, fun j i _ _ e => by rw [e]⟩) (fun c hc => ⟨_, hb c hc, fun j i hj _ e => by
    subst e
    show c j = c (ψ (φ j))
    rw [(h1 j hj).2]⟩)
theorem corners_turn {s : ByteArray} (hw : WOK s) : corners (turnS s) = corners s := by
  have hz := hw.size
  have hn := turnS_size (s := s) (by omega)
  obtain ⟨ht, hp⟩ := turn_ok hw
  have hS : ∀ i, i < s.size → (smW (turnS s) i ↔ smW s (sucN s.size i)) := by
    intro i hi
    have h1 := (par_spec hw (sucN_lt hi)).1
    unfold smW
    rw [hp i hi, turn_sm hi, turn_sm (preN_spec h1).1, (preN_spec h1).2]
  refine corners_move hw ht hn (sucN s.size) (preN s.size) (fun i hi => sucN_spec hi) (fun i hi => preN_spec hi) (fun c hc => ?_) (fun c hc => ?_)
  · rw [EGd_inv] at *
    intro i hi
    rw [hn] at hi ⊢
    have h1 := (par_spec hw (sucN_lt hi)).1
    rw [hp i hi, (preN_spec h1).2, hS i hi]
    exact hc _ (sucN_lt hi)
  · rw [EGd_inv] at *
    intro i hi
    have hq := preN_spec hi
    have h1 := (par_spec hw hi).1
    have := hc (preN s.size i) (by rw [hn]; exact hq.1)
    rw [hn, hp _ hq.1, hq.2, (preN_spec h1).2, hS _ hq.1, hq.2] at this
    try simp only []
    rw [(sucN_spec hi).2, (sucN_spec h1).2]
    exact this
def refN (n i : Nat) : Nat := if i = 0 then 0 else n - i
theorem refN_spec {n i : Nat} (h : i < n) : refN n i < n ∧ refN n (refN n i) = i := by
  unfold refN; split <;> split <;> omega
theorem refN_at {n i : Nat} (h : i < n) : refN n i = sucN n (n - 1 - i) ∧ refN n (sucN n i) = n - 1 - i := by
  constructor <;> (unfold refN sucN; split <;> split <;> omega)
theorem corners_back {s : ByteArray} (hw : WOK s) : corners (backS s) = corners s := by
  have hz := hw.size
  have hn := backS_size s
  obtain ⟨ht, hp⟩ := back_ok hw
  have hS : ∀ i, i < s.size → (smW (backS s) i ↔ smW s (s.size - 1 - i)) := by
    intro i hi
    have h1 := (par_spec hw (i := s.size - 1 - i) (by omega)).1
    unfold smW
    rw [hp i hi, back_sm hw hi, back_sm hw (i := s.size - 1 - par s (s.size - 1 - i)) (by omega), show s.size - 1 - (s.size - 1 - par s (s.size - 1 - i)) = par s (s.size - 1 - i) by omega]
    constructor
    · intro h; simpa using h
    · intro h; rw [h]
  have rs : ∀ i, i < s.size → refN s.size (s.size - 1 - i) = sucN s.size i ∧ refN s.size (sucN s.size (s.size - 1 - i)) = i := by
    intro i hi
    have := refN_at (n := s.size) (i := s.size - 1 - i) (by omega)
    rwa [show s.size - 1 - (s.size - 1 - i) = i by omega] at this
  refine corners_move hw ht hn (refN s.size) (refN s.size) (fun i hi => refN_spec hi) (fun i hi => refN_spec hi) (fun c hc => ?_) (fun c hc => ?_)
  · rw [EGd_inv] at *
    intro i hi
    rw [hn] at hi ⊢
    have h1 := (par_spec hw (i := s.size - 1 - i) (by omega)).1
    have := hc (s.size - 1 - i) (by omega)
    rw [hp i hi, hS i hi]
    try simp only []
    rw [(refN_at hi).1, (refN_at hi).2, (rs _ h1).1, (rs _ h1).2]
    exact ⟨fun h => ⟨(this.1 h).2, (this.1 h).1⟩, fun h => ⟨(this.2 h).2, (this.2 h).1⟩⟩
  · rw [EGd_inv] at *
    intro i hi
    have h1 := (par_spec hw hi).1
    have := hc (s.size - 1 - i) (by omega)
    rw [hn, hp _ (by omega), hS _ (by omega), show s.size - 1 - (s.size - 1 - i) = i by omega] at this
    try simp only []
    rw [(refN_at hi).1, (refN_at hi).2, (refN_at h1).1, (refN_at h1).2]
    exact ⟨fun h => ⟨(this.1 h).2, (this.1 h).1⟩, fun h => ⟨(this.2 h).2, (this.2 h).1⟩⟩
theorem corners_nam {s : ByteArray} (hw : WOK s) : corners (namS s 0) = corners s := by
  have hz := hw.size
  have hn := namS_size s 0
  obtain ⟨ht, hp⟩ := nam_ok hw 0 (by omega)
  have hS : ∀ i, i < s.size → (smW (namS s 0) i ↔ smW s i) := by
    intro i hi
    unfold smW
    rw [hp i hi]
    exact nam_sm hw 0 (by omega) hi
  refine corners_move hw ht hn id id (fun i hi => ⟨hi, rfl⟩) (fun i hi => ⟨hi, rfl⟩) (fun c hc => ?_) (fun c hc => ?_)
  · rw [EGd_inv] at *
    intro i hi
    rw [hn] at hi ⊢
    rw [hp i hi, hS i hi]
    exact hc i hi
  · rw [EGd_inv] at *
    intro i hi
    have := hc i (by omega)
    rw [hn, hp i hi, hS i hi] at this
    exact this

end Go.Proofs.YtjebcgbmlbemcaaGreatDoor.M
