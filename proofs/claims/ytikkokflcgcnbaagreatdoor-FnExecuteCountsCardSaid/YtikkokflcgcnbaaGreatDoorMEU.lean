import Derived.Test.YtikkokflcgcnbaaGreatDoorMD
set_option linter.unusedVariables false
set_option linter.unusedSimpArgs false
namespace Go.Proofs.YtikkokflcgcnbaaGreatDoor.M
open Go.RowKit Go.Proofs.YtikkokflcgcnbaaGreatDoorW.PrintWords

/-! ### The genus of a map is not negative -/
noncomputable def phS (t f : List Int) : Nat → Nat → Nat
  | 0 => fn t
  | i + 1 => if lowD f i = true then swp (phS t f i) i (fn f i) else phS t f i
noncomputable def edS (n : Nat) (t f : List Int) : Nat → (Nat → Nat → Prop)
  | 0 => EF n (fn t)
  | i + 1 => if lowD f i = true then addE (edS n t f i) i (fn f i) else edS n t f i
theorem ed_up {n : Nat} {t f : List Int} {i a b : Nat} (h : ConE (edS n t f i) a b) : ConE (edS n t f (i + 1)) a b := by
  simp only [edS]
  split
  · exact con_add.2 (.inl h)
  · exact h
theorem ed_mono {n : Nat} {t f : List Int} {i a b : Nat} (h : ConE (edS n t f i) a b) : ∀ m, ConE (edS n t f (i + m)) a b
  | 0 => h
  | m + 1 => ed_up (ed_mono h m)
theorem ed_edge {n : Nat} {t f : List Int} {i : Nat} (h : lowD f i = true) : ConE (edS n t f (i + 1)) i (fn f i) := by
  simp only [edS, h, if_true]
  exact ConE.step (.inr ⟨rfl, rfl⟩)
theorem ph_perm {n : Nat} {t f : List Int} (ht : PermL n t) (hf : PairL n f) : ∀ i, i ≤ n → ∃ g, PermN n (phS t f i) g
  | 0, _ => ⟨_, ht.perm⟩
  | i + 1, hi => by
    obtain ⟨g, hg⟩ := ph_perm ht hf i (by omega)
    simp only [phS]
    split
    · rename_i hl
      have h1 := (hf.flip (by omega : i < n)).1
      have h2 : i < fn f i := of_decide_eq_true hl
      exact ⟨_, swp_perm hg (by omega) h1 (by omega)⟩
    · exact ⟨g, hg⟩
theorem ph_con {n : Nat} {t f : List Int} (ht : PermL n t) (hf : PairL n f) : ∀ i, i ≤ n → ∀ j, j < n → ConE (edS n t f i) j (phS t f i j)
  | 0, _, j, hj => ConE.step ⟨hj, rfl⟩
  | i + 1, hi, j, hj => by
    have ih := ph_con ht hf i (by omega)
    simp only [phS]
    split
    · rename_i hl
      have h1 := (hf.flip (by omega : i < n)).1
      have h2 : i < fn f i := of_decide_eq_true hl
      have he := ed_edge (n := n) (t := t) hl
      by_cases a : j = i
      · subst a; rw [swp_x]; exact he.trans (ed_up (ih _ h1))
      · by_cases b : j = fn f i
        · rw [b, swp_y (by omega)]
          exact he.symm.trans (ed_up (ih i (by omega)))
        · rw [swp_z a b]; exact ed_up (ih j hj)
    · exact ed_up (ih j hj)
theorem ph_fine {n : Nat} {t f : List Int} (ht : PermL n t) (hf : PairL n f) {i : Nat} (hi : i ≤ n) {x y : Nat} (h : ConE (EF n (phS t f i)) x y) : ConE (edS n t f i) x y := by
  intro c hc
  refine h c (fun a b hab => ?_)
  obtain ⟨ha, rfl⟩ := hab
  exact ph_con ht hf i hi a ha c hc
theorem ph_val {n : Nat} {t f : List Int} (hf : PairL n f) : ∀ i, i ≤ n → ∀ j, j < n → phS t f i j = if j < i ∨ fn f j < i then fn t (fn f j) else fn t j
  | 0, _, j, _ => by rw [if_neg (by omega)]; rfl
  | i + 1, hi, j, hj => by
    have ih := ph_val (t := t) hf i (by omega)
    have h1 := hf.flip (by omega : i < n)
    have e1 := hf.inv i (by omega : i < n)
    have ej := hf.inv j hj
    have hnj := hf.ne j hj
    have hni := hf.ne i (by omega : i < n)
    simp only [phS]
    by_cases hl : lowD f i = true
    · rw [if_pos hl]
      have h2 : i < fn f i := of_decide_eq_true hl
      by_cases a : j = i
      · subst a
        rw [swp_x, ih _ h1.1, e1, if_neg (by omega), if_pos (by omega)]
      · by_cases b : j = fn f i
        · subst b
          rw [swp_y (by omega), ih i (by omega), e1, if_neg (by omega), if_pos (by omega)]
        · rw [swp_z a b, ih j hj]
          have c : fn f j ≠ i := fun c => b (by rw [← c, ej])
          by_cases d : j < i ∨ fn f j < i
          · rw [if_pos d, if_pos (by omega)]
          · rw [if_neg d, if_neg (by omega)]
    · rw [if_neg hl, ih j hj]
      have h2 : ¬ i < fn f i := fun c => hl (decide_eq_true c)
      by_cases a : j = i
      · subst a; rw [if_pos (by omega), if_pos (by omega)]
      · by_cases b : fn f j = i
        · have : fn f i = j := by rw [← b, ej]
          rw [if_pos (by omega), if_pos (by omega)]
        · by_cases d : j < i ∨ fn f j < i
          · rw [if_pos d, if_pos (by omega)]
          · rw [if_neg d, if_neg (by omega)]
theorem euler_up {n : Nat} {t f : List Int} (ht : PermL n t) (hf : PairL n f) : ∀ i, i ≤ n → cyc n (phS t f i) + cyc n (fn t) ≤ 2 * clsN (edS n t f i) n + cntP (lowD f) i
  | 0, _ => by show cyc n (fn t) + cyc n (fn t) ≤ 2 * cyc n (fn t) + 0; omega
  | i + 1, hi => by
    have ih := euler_up ht hf i (by omega)
    obtain ⟨g, hg⟩ := ph_perm ht hf i (by omega)
    simp only [phS, edS, cntP]
    by_cases hl : lowD f i = true
    · rw [if_pos hl, if_pos hl, if_pos hl]
      have h1 := (hf.flip (by omega : i < n)).1
      have h2 : i < fn f i := of_decide_eq_true hl
      obtain ⟨s1, s2⟩ := cyc_swp hg (by omega : i < n) h1 (by omega)
      obtain ⟨c1, c2⟩ := cls_add (E := edS n t f i) (by omega : i < n) h1
      by_cases q : ConE (edS n t f i) i (fn f i)
      · rw [c1 q]
        by_cases r : ConE (EF n (phS t f i)) i (fn f i)
        · rw [s1 r]; omega
        · have := s2 r; omega
      · have r : ¬ ConE (EF n (phS t f i)) i (fn f i) := fun r => q (ph_fine ht hf (by omega) r)
        have := s2 r
        have := c2 q
        omega
    · rw [if_neg hl, if_neg hl, if_neg hl]; omega
theorem ed_one {t f : List Int} (h : MOK t f) : clsN (edS t.length t f t.length) t.length ≤ 1 := by
  have hz := h.size
  have hp := h.pair
  have hO := orbL_isOrb h.permT.1 (show Pts t.length f from h.permF.1)
  have hcon : ∀ j, j < t.length → ConE (edS t.length t f t.length) 0 j := by
    intro j hj c hc
    have inv : ∀ a, a < t.length → c (fn t a) = c a ∧ c (fn f a) = c a := by
      intro a ha
      refine ⟨?_, ?_⟩
      · have := ed_mono (n := t.length) (t := t) (f := f) (i := 0) (a := a) (b := fn t a) (ConE.step ⟨ha, rfl⟩) t.length
        rw [Nat.zero_add] at this
        exact (this c hc).symm
      · have key : ∀ b, b < t.length → lowD f b = true → c b = c (fn f b) := fun b hb hl => by
          have := ed_mono (ed_edge (n := t.length) (t := t) hl) (t.length - (b + 1))
          rw [show b + 1 + (t.length - (b + 1)) = t.length by omega] at this
          exact this c hc
        have hfl := hp.flip ha
        by_cases hl : lowD f a = true
        · exact (key a ha hl).symm
        · have := key (fn f a) hfl.1 (by rw [hfl.2]; simp [hl])
          rw [hp.inv a ha] at this
          exact this
    have e0 := (hO.1.2 j hj).2.2 (fun x => (c x : Int)) (fun a ha => ⟨by have := (inv a ha).1; show ((c (fn t a) : Nat) : Int) = _; rw [this], by have := (inv a ha).2; show ((c (fn f a) : Nat) : Int) = _; rw [this]⟩)
    have hz0 : fn (orbL t f) j = 0 := by have := h.2.2.2.2 j hj; unfold fn; omega
    have e0' : ((c j : Nat) : Int) = ((c (fn (orbL t f) j) : Nat) : Int) := e0
    rw [hz0] at e0'
    omega
  unfold clsN
  have key : ∀ m, m ≤ t.length → cntP (lstB (edS t.length t f t.length)) m ≤ 1 := by
    intro m
    induction m with
    | zero => intro _; simp [cntP]
    | succ m ih =>
      intro hm
      simp only [cntP]
      by_cases e : m = 0
      · subst e; simp [cntP]; split <;> omega
      · have : lstB (edS t.length t f t.length) m = false := by
          cases q : lstB (edS t.length t f t.length) m with
          | false => rfl
          | true => exact absurd (hcon m (by omega)).symm (lstB_iff.1 q 0 (by omega))
        rw [this]
        have := ih (by omega)
        simp; omega
  exact key _ (Nat.le_refl _)
/-- Vertices and faces are at most edges and two. -/
theorem euler_map {t f : List Int} (h : MOK t f) : cyc t.length (fn t) + cyc t.length (fn (mulL f t)) ≤ t.length / 2 + 2 := by
  have hz := h.size
  have hp := h.pair
  have e := euler_up h.permT hp t.length (Nat.le_refl _)
  have e1 := ed_one h
  have e2 := hp.half
  have e3 : cyc t.length (phS t f t.length) = cyc t.length (fn (mulL f t)) := by
    unfold cyc
    refine clsN_congr (fun a b => ⟨fun w c hc => w c (fun x y hxy => ?_), fun w c hc => w c (fun x y hxy => ?_)⟩) _
    · obtain ⟨hx, rfl⟩ := hxy
      have hfx := (hp.flip hx).1
      rw [ph_val hp t.length (Nat.le_refl _) x hx, if_pos (.inl hx)]
      refine hc x _ ⟨hx, ?_⟩
      unfold fn; rw [rd_mulL f t x (by omega)]
      have := h.permF.1.2 x hx
      rw [show ((rd f (x : Int)).toNat : Int) = rd f (x : Int) by omega]
    · obtain ⟨hx, rfl⟩ := hxy
      have hfx := (hp.flip hx).1
      refine hc x _ ⟨hx, ?_⟩
      rw [ph_val hp t.length (Nat.le_refl _) x hx, if_pos (.inl hx)]
      unfold fn; rw [rd_mulL f t x (by omega)]
      have := h.permF.1.2 x hx
      rw [show ((rd f (x : Int)).toNat : Int) = rd f (x : Int) by omega]
  omega
theorem genZ_range {t f : List Int} (h : MOK t f) : 0 ≤ genZ t f ∧ genZ t f ≤ 4 := by
  have e := euler_map h
  have hz := h.size
  unfold genZ
  rw [hz.2.2]
  have : (2 - (cyc t.length (fn t) : Int) + ((t.length / 2 : Nat) : Int) - (cyc t.length (fn (mulL f t)) : Int)) ≥ 0 := by omega
  rw [Int.tdiv_eq_ediv_of_nonneg this]
  omega

end Go.Proofs.YtikkokflcgcnbaaGreatDoor.M
