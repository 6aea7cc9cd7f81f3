import Derived.Test.YtjebcgbmlbemcaaGreatDoorMS
set_option linter.unusedVariables false
set_option linter.unusedSimpArgs false
namespace Go.Proofs.YtjebcgbmlbemcaaGreatDoor.M
open Go.RowKit Go.Proofs.YtjebcgbmlbemcaaGreatDoorW.PrintWords

/-! ### Classes of a relation -/
def InvE (E : Nat → Nat → Prop) (c : Nat → Nat) : Prop := ∀ x y, E x y → c x = c y
def ConE (E : Nat → Nat → Prop) (i j : Nat) : Prop := ∀ c, InvE E c → c i = c j
theorem ConE.refl {E : Nat → Nat → Prop} (i : Nat) : ConE E i i := fun _ _ => rfl
theorem ConE.symm {E : Nat → Nat → Prop} {i j : Nat} (h : ConE E i j) : ConE E j i := fun c hc => (h c hc).symm
theorem ConE.trans {E : Nat → Nat → Prop} {i j k : Nat} (h : ConE E i j) (h' : ConE E j k) : ConE E i k := fun c hc => (h c hc).trans (h' c hc)
theorem ConE.step {E : Nat → Nat → Prop} {i j : Nat} (h : E i j) : ConE E i j := fun c hc => hc i j h
noncomputable def ind (P : Prop) : Nat := @ite _ P (Classical.propDecidable P) 1 0
theorem ind_iff {P Q : Prop} (h : P ↔ Q) : ind P = ind Q := by rw [propext h]
theorem ind_true {P : Prop} (h : P) : ind P = 1 := by unfold ind; rw [if_pos h]
theorem ind_false {P : Prop} (h : ¬ P) : ind P = 0 := by unfold ind; rw [if_neg h]
theorem of_ind {P Q : Prop} (h : ind P = ind Q) (hp : P) : Q := by
  rw [ind_true hp] at h
  refine Classical.byContradiction fun hq => ?_
  rw [ind_false hq] at h; omega
noncomputable def lstB (E : Nat → Nat → Prop) (i : Nat) : Bool := @decide (∀ j, j < i → ¬ ConE E i j) (Classical.propDecidable _)
theorem lstB_iff {E : Nat → Nat → Prop} {i : Nat} : lstB E i = true ↔ ∀ j, j < i → ¬ ConE E i j := by
  unfold lstB
  exact @decide_eq_true_iff _ (Classical.propDecidable _)
noncomputable def clsN (E : Nat → Nat → Prop) (n : Nat) : Nat := cntP (lstB E) n
theorem lstB_congr {E E' : Nat → Nat → Prop} (h : ∀ i j, ConE E i j ↔ ConE E' i j) (i : Nat) : lstB E i = lstB E' i := by
  rw [Bool.eq_iff_iff, lstB_iff, lstB_iff]
  simp only [h]
theorem clsN_congr {E E' : Nat → Nat → Prop} (h : ∀ i j, ConE E i j ↔ ConE E' i j) (n : Nat) : clsN E n = clsN E' n := cntP_congr _ _ _ (fun i _ => lstB_congr h i)
def addE (E : Nat → Nat → Prop) (x y : Nat) : Nat → Nat → Prop := fun a b => E a b ∨ (a = x ∧ b = y)
theorem con_add {E : Nat → Nat → Prop} {x y i j : Nat} : ConE (addE E x y) i j ↔ (ConE E i j ∨ (ConE E i x ∧ ConE E j y) ∨ (ConE E i y ∧ ConE E j x)) := by
  constructor
  · intro h
    have hc : InvE (addE E x y) (fun z => ind (ConE E i z ∨ (ConE E i x ∧ ConE E z y) ∨ (ConE E i y ∧ ConE E z x))) := by
      intro a b hab
      refine ind_iff ?_
      rcases hab with hab | ⟨rfl, rfl⟩
      · have hs : ConE E a b := ConE.step hab
        constructor
        · rintro (h | ⟨h, k⟩ | ⟨h, k⟩)
          · exact .inl (h.trans hs)
          · exact .inr (.inl ⟨h, hs.symm.trans k⟩)
          · exact .inr (.inr ⟨h, hs.symm.trans k⟩)
        · rintro (h | ⟨h, k⟩ | ⟨h, k⟩)
          · exact .inl (h.trans hs.symm)
          · exact .inr (.inl ⟨h, hs.trans k⟩)
          · exact .inr (.inr ⟨h, hs.trans k⟩)
      · constructor
        · rintro (h | ⟨h, k⟩ | ⟨h, k⟩)
          · exact .inr (.inl ⟨h, ConE.refl _⟩)
          · exact .inl (h.trans k)
          · exact .inl h
        · rintro (h | ⟨h, k⟩ | ⟨h, k⟩)
          · exact .inr (.inr ⟨h, ConE.refl _⟩)
          · exact .inl h
          · exact .inl (h.trans k)
    exact of_ind (h _ hc) (.inl (ConE.refl i))
  · intro h c hc
    have h1 : InvE E c := fun a b hab => hc a b (.inl hab)
    have h2 : c x = c y := hc x y (.inr ⟨rfl, rfl⟩)
    rcases h with h | ⟨h, k⟩ | ⟨h, k⟩
    · exact h c h1
    · rw [h c h1, k c h1, h2]
    · rw [h c h1, k c h1, h2]
theorem cntP_but (p q : Nat → Bool) (m : Nat) : ∀ n, m < n → p m = true → q m = false → (∀ i, i < n → i ≠ m → p i = q i) → cntP p n = cntP q n + 1
  | 0, h, _, _, _ => by omega
  | n + 1, h, hp, hq, he => by
    simp only [cntP]
    by_cases e : n = m
    · subst e
      rw [cntP_congr p q n (fun i hi => he i (by omega) (by omega)), hp, hq]; simp
    · have := cntP_but p q m n (by omega) hp hq (fun i hi => he i (by omega))
      rw [he n (by omega) e]; omega
theorem least_con (E : Nat → Nat → Prop) (x : Nat) : ∃ l, ConE E x l ∧ l ≤ x ∧ ∀ k, ConE E x k → l ≤ k := by
  obtain ⟨l, h1, h2⟩ := least_of (ConE E x) x (ConE.refl x)
  exact ⟨l, h1, h2 x (ConE.refl x), h2⟩
theorem cls_add {E : Nat → Nat → Prop} {x y n : Nat} (hx : x < n) (hy : y < n) : (ConE E x y → clsN (addE E x y) n = clsN E n) ∧ (¬ ConE E x y → clsN E n = clsN (addE E x y) n + 1) := by
  constructor
  · intro h
    refine clsN_congr (fun i j => ?_) n
    rw [con_add]
    constructor
    · rintro (k | ⟨k, l⟩ | ⟨k, l⟩)
      · exact k
      · exact k.trans (h.trans l.symm)
      · exact k.trans (h.symm.trans l.symm)
    · exact .inl
  · intro h
    have main : ∀ x y, x < n → y < n → ¬ ConE E x y → (∃ lx ly, ConE E x lx ∧ (∀ k, ConE E x k → lx ≤ k) ∧ ConE E y ly ∧ (∀ k, ConE E y k → ly ≤ k) ∧ lx < ly) → clsN E n = clsN (addE E x y) n + 1 := by
      rintro x y hx hy h ⟨lx, ly, x1, x2, y1, y2, hlt⟩
      have hly : ly < n := by have := y2 y (ConE.refl y); omega
      refine cntP_but _ _ ly n hly ?_ ?_ (fun i hi hne => ?_)
      · rw [lstB_iff]
        intro j hj hc
        have := y2 j (y1.trans hc); omega
      · cases hq : lstB (addE E x y) ly with
        | false => rfl
        | true =>
          rw [lstB_iff] at hq
          exact absurd (con_add.2 (.inr (.inr ⟨y1.symm, x1.symm⟩))) (hq lx hlt)
      · rw [Bool.eq_iff_iff, lstB_iff, lstB_iff]
        constructor
        · intro hl j hj hc
          rw [con_add] at hc
          rcases hc with hc | ⟨k, l⟩ | ⟨k, l⟩
          · exact hl j hj hc
          · -- i is the least of x's class, j in y's
            have e1 := x2 i k.symm
            have e2 : ¬ lx < i := fun q => hl lx q (k.trans x1)
            have e3 := y2 j l.symm
            omega
          · have e1 := y2 i k.symm
            have e2 : ¬ ly < i := fun q => hl ly q (k.trans y1)
            omega
        · intro hl j hj hc
          exact hl j hj (con_add.2 (.inl hc))
    obtain ⟨lx, x1, x0, x2⟩ := least_con E x
    obtain ⟨ly, y1, y0, y2⟩ := least_con E y
    rcases Nat.lt_trichotomy lx ly with e | e | e
    · exact main x y hx hy h ⟨lx, ly, x1, x2, y1, y2, e⟩
    · subst e; exact absurd (x1.trans y1.symm) h
    · have := main y x hy hx (fun k => h k.symm) ⟨ly, lx, y1, y2, x1, x2, e⟩
      rw [this]
      congr 1
      refine clsN_congr (fun i j => ?_) n
      rw [con_add, con_add]
      constructor
      · rintro (k | k | k)
        · exact .inl k
        · exact .inr (.inr k)
        · exact .inr (.inl k)
      · rintro (k | k | k)
        · exact .inl k
        · exact .inr (.inr k)
        · exact .inr (.inl k)
/-! ### Permutations and how many cycles they have -/
structure PermN (n : Nat) (f g : Nat → Nat) : Prop where
  fl : ∀ i, i < n → f i < n
  gl : ∀ i, i < n → g i < n
  gf : ∀ i, i < n → g (f i) = i
  fg : ∀ i, i < n → f (g i) = i
theorem PermN.inj {n : Nat} {f g : Nat → Nat} (h : PermN n f g) {i j : Nat} (hi : i < n) (hj : j < n) (e : f i = f j) : i = j := by rw [← h.gf i hi, e, h.gf j hj]
def EF (n : Nat) (f : Nat → Nat) : Nat → Nat → Prop := fun a b => a < n ∧ b = f a
noncomputable def cyc (n : Nat) (f : Nat → Nat) : Nat := clsN (EF n f) n
def itr (f : Nat → Nat) : Nat → Nat → Nat
  | 0, x => x
  | k + 1, x => f (itr f k x)
theorem itr_lt {n : Nat} {f g : Nat → Nat} (h : PermN n f g) {x : Nat} (hx : x < n) : ∀ k, itr f k x < n
  | 0 => hx
  | k + 1 => h.fl _ (itr_lt h hx k)
theorem itr_con {n : Nat} {f g : Nat → Nat} (h : PermN n f g) {x : Nat} (hx : x < n) : ∀ k, ConE (EF n f) x (itr f k x)
  | 0 => ConE.refl x
  | k + 1 => (itr_con h hx k).trans (ConE.step ⟨itr_lt h hx k, rfl⟩)
theorem sum_ind_le_one (P : Nat → Bool) : ∀ m, (∀ i j, i < m → j < m → P i = true → P j = true → i = j) → cntP P m ≤ 1
  | 0, _ => by simp [cntP]
  | m + 1, h => by
    have := sum_ind_le_one P m (fun i j hi hj => h i j (by omega) (by omega))
    simp only [cntP]
    by_cases e : P m = true
    · rw [if_pos e]
      have : cntP P m = 0 := by
        rw [cntP_congr P (fun _ => false) m (fun i hi => by
          cases q : P i with
          | false => rfl
          | true => have := h i m (by omega) (by omega) q e; omega)]
        have : ∀ m, cntP (fun _ => false) m = 0 := by
          intro m
          induction m with
          | zero => rfl
          | succ m ih => simp only [cntP]; rw [ih]; rfl
        exact this m
      omega
    · rw [if_neg e]; omega
theorem sumN_const (v : Nat) : ∀ n, sumN (fun _ => v) n = n * v
  | 0 => by simp [sumN]
  | n + 1 => by simp only [sumN]; rw [sumN_const v n, Nat.succ_mul]
theorem pigeon (n : Nat) (h : Nat → Nat) (hn : ∀ i, i < n + 1 → h i < n) : ∃ i j, i < j ∧ j < n + 1 ∧ h i = h j := by
  refine Classical.byContradiction fun hno => ?_
  have hinj : ∀ i j, i < n + 1 → j < n + 1 → h i = h j → i = j := by
    intro i j hi hj e
    rcases Nat.lt_trichotomy i j with q | q | q
    · exact absurd ⟨i, j, q, hj, e⟩ hno
    · exact q
    · exact absurd ⟨j, i, q, hi, e.symm⟩ hno
  have h1 : sumN (fun i => sumN (fun j => if j = h i then 1 else 0) n) (n + 1) = n + 1 := by
    rw [sumN_congr (g := fun _ => 1) (fun i hi => by rw [sumN_single (fun _ => 1) (h i) n, if_pos (hn i hi)]), sumN_const]; omega
  have h2 : sumN (fun j => sumN (fun i => if j = h i then 1 else 0) (n + 1)) n ≤ n := by
    have : sumN (fun j => sumN (fun i => if j = h i then 1 else 0) (n + 1)) n ≤ sumN (fun _ => 1) n := sumN_mono (fun j hj => by
      have e : sumN (fun i => if j = h i then 1 else 0) (n + 1) = cntP (fun i => decide (j = h i)) (n + 1) := by
        rw [cntP_sum]; refine sumN_congr (fun i hi => ?_); simp
      rw [e]
      exact sum_ind_le_one _ _ (fun i k hi hk a b => hinj i k hi hk (by rw [← of_decide_eq_true a, ← of_decide_eq_true b])))
    rw [sumN_const] at this; omega
  rw [sumN_swap] at h1
  omega
theorem itr_add (f : Nat → Nat) (x : Nat) : ∀ a b, itr f (a + b) x = itr f a (itr f b x)
  | 0, b => by rw [Nat.zero_add]; rfl
  | a + 1, b => by rw [show a + 1 + b = (a + b) + 1 by omega]; simp only [itr]; rw [itr_add f x a b]
theorem itr_cancel {n : Nat} {f g : Nat → Nat} (h : PermN n f g) {x : Nat} (hx : x < n) : ∀ i d, itr f i x = itr f (i + d) x → itr f d x = x
  | 0, d, e => by rw [Nat.zero_add] at e; exact e.symm
  | i + 1, d, e => by
    rw [show i + 1 + d = (i + d) + 1 by omega] at e
    exact itr_cancel h hx i d (h.inj (itr_lt h hx i) (itr_lt h hx (i + d)) e)
/-- The least number of times after which a point is where it was. -/
theorem period {n : Nat} {f g : Nat → Nat} (h : PermN n f g) {x : Nat} (hx : x < n) : ∃ p, 1 ≤ p ∧ p ≤ n ∧ itr f p x = x ∧ ∀ k, 1 ≤ k → k < p → itr f k x ≠ x := by
  obtain ⟨i, j, hij, hj, e⟩ := pigeon n (fun k => itr f k x) (fun k _ => itr_lt h hx k)
  have h1 : itr f (j - i) x = x := itr_cancel h hx i (j - i) (by rw [show i + (j - i) = j by omega]; exact e)
  obtain ⟨p, ⟨p1, p2⟩, p3⟩ := least_of (fun k => 1 ≤ k ∧ itr f k x = x) (j - i) ⟨by omega, h1⟩
  have := p3 (j - i) ⟨by omega, h1⟩
  exact ⟨p, p1, by omega, p2, fun k k1 k2 e => by have := p3 k ⟨k1, e⟩; omega⟩
/-- A point of the same cycle is met within the period. -/
theorem con_itr {n : Nat} {f g : Nat → Nat} (h : PermN n f g) {x y p : Nat} (hx : x < n) (p1 : 1 ≤ p) (p2 : itr f p x = x) (hc : ConE (EF n f) x y) : ∃ m, m < p ∧ y = itr f m x := by
  refine of_ind (hc (fun z => ind (∃ m, m < p ∧ z = itr f m x)) ?_) ⟨0, by omega, rfl⟩
  rintro z w ⟨hz, rfl⟩
  refine ind_iff ⟨?_, ?_⟩
  · rintro ⟨m, hm, rfl⟩
    by_cases e : m + 1 = p
    · exact ⟨0, by omega, by rw [show f (itr f m x) = itr f (m + 1) x from rfl, e, p2]; rfl⟩
    · exact ⟨m + 1, by omega, rfl⟩
  · rintro ⟨m, hm, e⟩
    cases m with
    | zero =>
      refine ⟨p - 1, by omega, h.inj hz (itr_lt h hx _) ?_⟩
      rw [show f (itr f (p - 1) x) = itr f (p - 1 + 1) x from rfl, show p - 1 + 1 = p by omega, p2]; exact e
    | succ m => exact ⟨m, by omega, h.inj hz (itr_lt h hx _) e⟩
def swp (f : Nat → Nat) (x y : Nat) : Nat → Nat := fun z => if z = x then f y else if z = y then f x else f z
theorem swp_x (f : Nat → Nat) (x y : Nat) : swp f x y x = f y := if_pos rfl
theorem swp_y {f : Nat → Nat} {x y : Nat} (h : x ≠ y) : swp f x y y = f x := by unfold swp; rw [if_neg (Ne.symm h), if_pos rfl]
theorem swp_z {f : Nat → Nat} {x y z : Nat} (h : z ≠ x) (k : z ≠ y) : swp f x y z = f z := by unfold swp; rw [if_neg h, if_neg k]
theorem swp_join {n : Nat} {f g : Nat → Nat} (h : PermN n f g) {x y : Nat} (hx : x < n) (hy : y < n) (hne : x ≠ y) (hc : ¬ ConE (EF n f) x y) : ConE (EF n (swp f x y)) x y := by
  obtain ⟨q, q1, q2, q3, q4⟩ := period h hy
  have key : ∀ k, 1 ≤ k → k ≤ q → ConE (EF n (swp f x y)) x (itr f k y) := by
    intro k
    induction k with
    | zero => intro h; omega
    | succ k ih =>
      intro _ hk
      by_cases e : k = 0
      · subst e
        exact ConE.step ⟨hx, (swp_x f x y).symm⟩
      · have h1 := ih (by omega) (by omega)
        refine h1.trans (ConE.step ⟨itr_lt h hy k, ?_⟩)
        rw [swp_z (fun e2 => hc (by rw [← e2]; exact (itr_con h hy k).symm)) (q4 k (by omega) (by omega))]
        rfl
  have := key q q1 (Nat.le_refl _)
  rwa [q3] at this
theorem swp_part {n : Nat} {f g : Nat → Nat} (h : PermN n f g) {x y : Nat} (hx : x < n) (hy : y < n) (hne : x ≠ y) (hc : ConE (EF n f) x y) : ¬ ConE (EF n (swp f x y)) x y := by
  obtain ⟨p, p1, p2, p3, p4⟩ := period h hx
  obtain ⟨m, hm, rfl⟩ := con_itr h hx p1 p3 hc
  have hm0 : 1 ≤ m := by
    cases m with
    | zero => exact absurd rfl hne
    | succ m => omega
  intro hk
  have hy0 : ∃ j, m < j ∧ j ≤ p ∧ itr f m x = itr f j x := by
    refine of_ind (hk (fun z => ind (∃ j, m < j ∧ j ≤ p ∧ z = itr f j x)) ?_) ⟨p, hm, Nat.le_refl _, p3.symm⟩
    rintro z w ⟨hz, rfl⟩
    refine ind_iff ?_
    by_cases e1 : z = x
    · rw [e1, swp_x]
      exact ⟨fun _ => ⟨m + 1, by omega, by omega, rfl⟩, fun _ => ⟨p, hm, Nat.le_refl _, p3.symm⟩⟩
    · by_cases e2 : z = itr f m x
      · rw [e2, swp_y hne]
        constructor
        · rintro ⟨j, j1, j2, e⟩
          have e3 := itr_cancel h hx m (j - m) (by rw [show m + (j - m) = j by omega]; exact e)
          exact absurd e3 (p4 _ (by omega) (by omega))
        · rintro ⟨j, j1, j2, e⟩
          have e3 := itr_cancel h hx 1 (j - 1) (by rw [show 1 + (j - 1) = j by omega]; exact e)
          exact absurd e3 (p4 _ (by omega) (by omega))
      · rw [swp_z e1 e2]
        constructor
        · rintro ⟨j, j1, j2, e⟩
          have : j ≠ p := fun q => e1 (by rw [e, q, p3])
          exact ⟨j + 1, by omega, by omega, by rw [e]; rfl⟩
        · rintro ⟨j, j1, j2, e⟩
          obtain ⟨j, rfl⟩ : ∃ i, j = i + 1 := ⟨j - 1, by omega⟩
          have e3 : z = itr f j x := h.inj hz (itr_lt h hx j) e
          exact ⟨j, by
            by_cases q : j = m
            · exact absurd (by rw [e3, q]) e2
            · omega, by omega, e3⟩
  obtain ⟨j, j1, j2, e⟩ := hy0
  have e3 := itr_cancel h hx m (j - m) (by rw [show m + (j - m) = j by omega]; exact e)
  exact p4 _ (by omega) (by omega) e3
theorem swp_perm {n : Nat} {f g : Nat → Nat} (h : PermN n f g) {x y : Nat} (hx : x < n) (hy : y < n) (hne : x ≠ y) : PermN n (swp f x y) (fun z => if g z = x then y else if g z = y then x else g z) := by
  refine ⟨fun i hi => ?_, fun i hi => ?_, fun i hi => ?_, fun i hi => ?_⟩
  · unfold swp; split
    · exact h.fl y hy
    · split
      · exact h.fl x hx
      · exact h.fl i hi
  · show (if g i = x then y else if g i = y then x else g i) < n
    split
    · exact hy
    · split
      · exact hx
      · exact h.gl i hi
  · by_cases e1 : i = x
    · subst e1; rw [swp_x, h.gf y hy, if_neg (Ne.symm hne), if_pos rfl]
    · by_cases e2 : i = y
      · subst e2; rw [swp_y hne, h.gf x hx, if_pos rfl]
      · rw [swp_z e1 e2, h.gf i hi, if_neg e1, if_neg e2]
  · by_cases e1 : g i = x
    · rw [if_pos e1, swp_y hne, ← e1, h.fg i hi]
    · rw [if_neg e1]
      by_cases e2 : g i = y
      · rw [if_pos e2, swp_x, ← e2, h.fg i hi]
      · rw [if_neg e2, swp_z e1 e2, h.fg i hi]
theorem swp_inv {n : Nat} {f : Nat → Nat} {x y : Nat} (hx : x < n) (hy : y < n) (hne : x ≠ y) {c : Nat → Nat} (h : InvE (EF n f) c) (hxy : c x = c y) : InvE (EF n (swp f x y)) c := by
  rintro z w ⟨hz, rfl⟩
  by_cases e1 : z = x
  · rw [e1, swp_x, hxy]; exact h y _ ⟨hy, rfl⟩
  · by_cases e2 : z = y
    · rw [e2, swp_y hne, ← hxy]; exact h x _ ⟨hx, rfl⟩
    · rw [swp_z e1 e2]; exact h z _ ⟨hz, rfl⟩
theorem swp_swp {f : Nat → Nat} {x y : Nat} (hne : x ≠ y) : swp (swp f x y) x y = f := by
  funext z
  by_cases e1 : z = x
  · rw [e1, swp_x, swp_y hne]
  · by_cases e2 : z = y
    · rw [e2, swp_y hne, swp_x]
    · rw [swp_z e1 e2, swp_z e1 e2]
/-- An exchange of two values changes the number of cycles by one. -/
theorem cyc_swp {n : Nat} {f g : Nat → Nat} (h : PermN n f g) {x y : Nat} (hx : x < n) (hy : y < n) (hne : x ≠ y) :
    (ConE (EF n f) x y → cyc n (swp f x y) = cyc n f + 1) ∧ (¬ ConE (EF n f) x y → cyc n f = cyc n (swp f x y) + 1) := by
  have same : clsN (addE (EF n f) x y) n = clsN (addE (EF n (swp f x y)) x y) n := by
    have one : ∀ f' : Nat → Nat, ∀ i j, ConE (addE (EF n (swp f' x y)) x y) i j → ConE (addE (EF n f') x y) i j := by
      intro f' i j hc c hinv
      refine hc c ?_
      have h1 : InvE (EF n f') c := fun a b hab => hinv a b (.inl hab)
      have h2 : c x = c y := hinv x y (.inr ⟨rfl, rfl⟩)
      rintro a b (hab | ⟨rfl, rfl⟩)
      · exact swp_inv hx hy hne h1 h2 a b hab
      · exact h2
    refine clsN_congr (fun i j => ⟨fun k => ?_, one f i j⟩) n
    have := one (swp f x y) i j
    rw [swp_swp hne] at this
    exact this k
  obtain ⟨a1, a2⟩ := cls_add (E := EF n f) hx hy
  obtain ⟨b1, b2⟩ := cls_add (E := EF n (swp f x y)) hx hy
  unfold cyc
  constructor
  · intro hc
    have h1 := a1 hc
    have h2 := b2 (swp_part h hx hy hne hc)
    omega
  · intro hc
    have h1 := a2 hc
    have h2 := b1 (swp_join h hx hy hne hc)
    omega
/-- The pairs of an involution below k exchanged. -/
def prt (f h : Nat → Nat) (k : Nat) : Nat → Nat := fun z => if z < k ∨ h z < k then f (h z) else f z
theorem cyc_inv {n : Nat} {f g h : Nat → Nat} (hf : PermN n f g) (hh : ∀ i, i < n → h i < n ∧ h (h i) = i ∧ h i ≠ i) :
    (cyc n (fun z => f (h z)) + cntP (fun i => decide (i < h i)) n) % 2 = cyc n f % 2 ∧ ∃ g', PermN n (fun z => f (h z)) g' := by
  have same : ∀ f1 f2 : Nat → Nat, (∀ z, z < n → f1 z = f2 z) → cyc n f1 = cyc n f2 := by
    intro f1 f2 he
    refine clsN_congr (fun i j => ?_) n
    have : ∀ c, InvE (EF n f1) c ↔ InvE (EF n f2) c := fun c => by
      constructor
      · rintro hc a b ⟨ha, rfl⟩; rw [← he a ha]; exact hc a _ ⟨ha, rfl⟩
      · rintro hc a b ⟨ha, rfl⟩; rw [he a ha]; exact hc a _ ⟨ha, rfl⟩
    unfold ConE
    simp only [this]
  have samep : ∀ f1 f2 g1 : Nat → Nat, (∀ z, z < n → f1 z = f2 z) → PermN n f1 g1 → PermN n f2 g1 := by
    intro f1 f2 g1 he hp
    exact ⟨fun i hi => by rw [← he i hi]; exact hp.fl i hi, hp.gl, fun i hi => by rw [← he i hi]; exact hp.gf i hi, fun i hi => by rw [← he _ (hp.gl i hi)]; exact hp.fg i hi⟩
  have key : ∀ k, k ≤ n → (cyc n (prt f h k) + cntP (fun i => decide (i < h i)) k) % 2 = cyc n f % 2 ∧ ∃ g', PermN n (prt f h k) g' := by
    intro k
    induction k with
    | zero =>
      intro _
      have e : ∀ z, z < n → f z = prt f h 0 z := fun z _ => by unfold prt; rw [if_neg (by omega)]
      exact ⟨by rw [← same f _ e]; rfl, g, samep f _ g e hf⟩
    | succ k ih =>
      intro hk
      obtain ⟨i1, g', i2⟩ := ih (by omega)
      obtain ⟨h1, h2, h3⟩ := hh k (by omega)
      by_cases e : k < h k
      · have es : ∀ z, z < n → swp (prt f h k) k (h k) z = prt f h (k + 1) z := by
          intro z hz
          obtain ⟨z1, z2, z3⟩ := hh z hz
          by_cases e1 : z = k
          · subst e1
            rw [swp_x]; unfold prt
            rw [if_neg (by rw [h2]; omega), if_pos (by omega)]
          · by_cases e2 : z = h k
            · subst e2
              rw [swp_y (Ne.symm h3)]; unfold prt
              rw [if_neg (by omega), if_pos (by rw [h2]; omega), h2]
            · rw [swp_z e1 e2]; unfold prt
              have e3 : h z ≠ k := fun q => e2 (by rw [← q, z2])
              by_cases q : z < k ∨ h z < k
              · rw [if_pos q, if_pos (by omega)]
              · rw [if_neg q, if_neg (by omega)]
        have hp := swp_perm i2 (show k < n by omega) h1 (Ne.symm h3)
        refine ⟨?_, _, samep _ _ _ es hp⟩
        rw [← same _ _ es]
        simp only [cntP]
        rw [if_pos (decide_eq_true e)]
        obtain ⟨c1, c2⟩ := cyc_swp i2 (show k < n by omega) h1 (Ne.symm h3)
        by_cases hc : ConE (EF n (prt f h k)) k (h k)
        · have := c1 hc; omega
        · have := c2 hc; omega
      · have es : ∀ z, z < n → prt f h k z = prt f h (k + 1) z := by
          intro z hz
          obtain ⟨z1, z2, z3⟩ := hh z hz
          unfold prt
          by_cases q : z < k ∨ h z < k
          · rw [if_pos q, if_pos (by omega)]
          · rw [if_neg q, if_neg ?_]
            rintro (q2 | q2)
            · have : z = k := by omega
              subst this; omega
            · have e3 : h z = k := by omega
              rw [← e3, z2] at e; omega
        refine ⟨?_, g', samep _ _ _ es i2⟩
        rw [← same _ _ es]
        simp only [cntP]
        rw [if_neg (fun q => e (of_decide_eq_true q))]; exact i1
  obtain ⟨k1, g', k2⟩ := key n (Nat.le_refl _)
  have e : ∀ z, z < n → prt f h n z = f (h z) := fun z hz => by unfold prt; rw [if_pos (.inl hz)]
  exact ⟨by rw [← same _ (fun z => f (h z)) e]; exact k1, g', samep _ (fun z => f (h z)) g' e k2⟩

end Go.Proofs.YtjebcgbmlbemcaaGreatDoor.M
