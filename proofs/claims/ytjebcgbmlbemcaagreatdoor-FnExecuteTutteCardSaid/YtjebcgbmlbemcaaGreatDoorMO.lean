import Derived.Test.YtjebcgbmlbemcaaGreatDoorML
set_option linter.unusedVariables false
set_option linter.unusedSimpArgs false
namespace Go.Proofs.YtjebcgbmlbemcaaGreatDoor.M
open Go.RowKit Go.Proofs.YtjebcgbmlbemcaaGreatDoorW.PrintWords

/-! ### Orbits: the least point of each class -/
def fn (l : List Int) (i : Nat) : Nat := (rd l (i : Int)).toNat
def Pts (n : Nat) (l : List Int) : Prop := l.length = n ∧ ∀ i, i < n → 0 ≤ rd l (i : Int) ∧ rd l (i : Int) < n
theorem Pts.fn {n : Nat} {l : List Int} (h : Pts n l) {i : Nat} (hi : i < n) : rd l (i : Int) = (fn l i : Int) ∧ fn l i < n := by
  have := h.2 i hi
  unfold M.fn
  omega
def Inv2 (n : Nat) (a b : List Int) (c : Nat → Int) : Prop := ∀ i, i < n → c (fn a i) = c i ∧ c (fn b i) = c i
/-- Two points that no colouring which both permutations keep can tell apart. -/
def Con (n : Nat) (a b : List Int) (i j : Nat) : Prop := ∀ c, Inv2 n a b c → c i = c j
theorem Con.refl {n : Nat} {a b : List Int} (i : Nat) : Con n a b i i := fun _ _ => rfl
theorem Con.symm {n : Nat} {a b : List Int} {i j : Nat} (h : Con n a b i j) : Con n a b j i := fun c hc => (h c hc).symm
theorem Con.trans {n : Nat} {a b : List Int} {i j k : Nat} (h : Con n a b i j) (h' : Con n a b j k) : Con n a b i k := fun c hc => (h c hc).trans (h' c hc)
theorem Con.fa {n : Nat} {a b : List Int} {i : Nat} (h : i < n) : Con n a b i (fn a i) := fun c hc => (hc i h).1.symm
theorem Con.fb {n : Nat} {a b : List Int} {i : Nat} (h : i < n) : Con n a b i (fn b i) := fun c hc => (hc i h).2.symm
def OrbPre (n : Nat) (a b o : List Int) : Prop := o.length = n ∧ ∀ i, i < n → 0 ≤ rd o (i : Int) ∧ rd o (i : Int) ≤ i ∧ Con n a b i (fn o i)
def IsOrb (n : Nat) (a b o : List Int) : Prop := OrbPre n a b o ∧ ∀ i, i < n → rd o (fn a i : Int) = rd o (i : Int) ∧ rd o (fn b i : Int) = rd o (i : Int)
theorem IsOrb.inv {n : Nat} {a b o : List Int} (h : IsOrb n a b o) : Inv2 n a b (fun i => rd o (i : Int)) := fun i hi => h.2 i hi
theorem OrbPre.pts {n : Nat} {a b o : List Int} (h : OrbPre n a b o) : Pts n o := ⟨h.1, fun i hi => by have := h.2 i hi; omega⟩
theorem IsOrb.unique {n : Nat} {a b o p : List Int} (h : IsOrb n a b o) (k : IsOrb n a b p) : o = p := by
  have key : ∀ {o p : List Int}, IsOrb n a b o → IsOrb n a b p → ∀ i, i < n → rd o (i : Int) ≤ rd p (i : Int) := by
    intro o p h k i hi
    have e := (k.1.2 i hi).2.2 _ h.inv
    have f := k.1.pts.fn hi
    have g := (h.1.2 (fn p i) f.2).2.1
    rw [e, f.1]; exact g
  refine list_ext_rd (by rw [h.1.1, k.1.1]) (fun i hi => ?_)
  rw [h.1.1] at hi
  have := key h k i hi
  have := key k h i hi
  omega
theorem rd_set_self (o : List Int) (i : Nat) (x : Int) (h : i < o.length) : rd (o.set i x) (i : Int) = x := rd_get? _ _ _ (List.getElem?_set_self h)
theorem rd_set_ne (o : List Int) (i j : Nat) (x : Int) (h : i ≠ j) : rd (o.set i x) (j : Int) = rd o (j : Int) := by
  simp only [rd, List.getD_eq_getElem?_getD, Int.toNat_natCast]
  rw [List.getElem?_set_ne h]
theorem OrbPre.set {n : Nat} {a b o : List Int} (h : OrbPre n a b o) {i j : Nat} (hi : i < n) (hj : j < n) (hc : Con n a b i j) (hle : rd o (j : Int) ≤ i) : OrbPre n a b (o.set i (rd o (j : Int))) := by
  refine ⟨by rw [List.length_set]; exact h.1, fun q hq => ?_⟩
  by_cases e : i = q
  · subst e
    have hz := h.2 j hj
    unfold M.fn
    rw [rd_set_self _ _ _ (by rw [h.1]; exact hi)]
    exact ⟨hz.1, hle, hc.trans hz.2.2⟩
  · have := h.2 q hq
    unfold M.fn at *
    rw [rd_set_ne _ _ _ _ e]; exact this
/-- A value that stands at some point of the class, low enough for i. -/
theorem OrbPre.put {n : Nat} {a b o : List Int} (h : OrbPre n a b o) {i : Nat} (hi : i < n) (x : Int) (h0 : 0 ≤ x) (hle : x ≤ i) (hc : Con n a b i x.toNat) : OrbPre n a b (o.set i x) := by
  refine ⟨by rw [List.length_set]; exact h.1, fun q hq => ?_⟩
  by_cases e : i = q
  · subst e
    unfold M.fn
    rw [rd_set_self _ _ _ (by rw [h.1]; exact hi)]
    exact ⟨h0, hle, hc⟩
  · have := h.2 q hq
    unfold M.fn at *
    rw [rd_set_ne _ _ _ _ e]; exact this
def idL (n : Nat) : List Int := (List.range n).map (fun i : Nat => (i : Int))
theorem idL_length (n : Nat) : (idL n).length = n := by simp [idL]
theorem rd_idL (n i : Nat) (h : i < n) : rd (idL n) (i : Int) = i := by
  rw [rd_nat _ _ (by rw [idL_length]; exact h)]; simp [idL]
theorem OrbPre.start (n : Nat) (a b : List Int) : OrbPre n a b (idL n) := by
  refine ⟨idL_length n, fun i hi => ?_⟩
  unfold M.fn
  rw [rd_idL n i hi]
  exact ⟨by omega, Int.le_refl _, Con.refl i⟩
/-! ### The least point of a class, by itself -/
theorem least_of (P : Nat → Prop) : ∀ n, P n → ∃ m, P m ∧ ∀ k, P k → m ≤ k := by
  intro n
  induction n using Nat.strongRecOn with
  | _ n ih =>
    intro h
    by_cases e : ∃ k, k < n ∧ P k
    · obtain ⟨k, hk, hp⟩ := e; exact ih k hk hp
    · exact ⟨n, h, fun k hp => by
        by_cases q : k < n
        · exact absurd ⟨k, q, hp⟩ e
        · omega⟩
noncomputable def low (n : Nat) (a b : List Int) (i : Nat) : Nat := Classical.choose (least_of (fun j => j < n → Con n a b i j) n (fun h => absurd h (Nat.lt_irrefl n)))
theorem low_spec {n : Nat} {a b : List Int} {i : Nat} (hi : i < n) : low n a b i ≤ i ∧ Con n a b i (low n a b i) ∧ ∀ j, j < n → Con n a b i j → low n a b i ≤ j := by
  have h := Classical.choose_spec (least_of (fun j => j < n → Con n a b i j) n (fun h => absurd h (Nat.lt_irrefl n)))
  have h1 : low n a b i ≤ i := h.2 i (fun _ => Con.refl i)
  exact ⟨h1, h.1 (by show low n a b i < n; omega), fun j hj hc => h.2 j (fun _ => hc)⟩
theorem low_con {n : Nat} {a b : List Int} {i j : Nat} (hi : i < n) (hj : j < n) (h : Con n a b i j) : low n a b i = low n a b j := by
  obtain ⟨a1, a2, a3⟩ := low_spec (a := a) (b := b) hi
  obtain ⟨b1, b2, b3⟩ := low_spec (a := a) (b := b) hj
  have := a3 _ (by omega) (h.trans b2)
  have := b3 _ (by omega) (h.symm.trans a2)
  omega
theorem OrbPre.low_le {n : Nat} {a b o : List Int} (h : OrbPre n a b o) {i : Nat} (hi : i < n) : (low n a b i : Int) ≤ rd o (i : Int) := by
  have := h.2 i hi
  have f := h.pts.fn hi
  have := (low_spec (a := a) (b := b) hi).2.2 _ f.2 this.2.2
  omega
noncomputable def orbL (a b : List Int) : List Int := (List.range a.length).map (fun i => (low a.length a b i : Int))
theorem orbL_length (a b : List Int) : (orbL a b).length = a.length := by simp [orbL]
theorem rd_orbL (a b : List Int) (i : Nat) (h : i < a.length) : rd (orbL a b) (i : Int) = low a.length a b i := by
  rw [rd_nat _ _ (by rw [orbL_length]; exact h)]; simp [orbL]
theorem orbL_isOrb {n : Nat} {a b : List Int} (ha : Pts n a) (hb : Pts n b) : IsOrb n a b (orbL a b) := by
  have hn := ha.1
  refine ⟨⟨by rw [orbL_length, hn], fun i hi => ?_⟩, fun i hi => ?_⟩
  · obtain ⟨h1, h2, h3⟩ := low_spec (a := a) (b := b) hi
    unfold M.fn
    rw [rd_orbL a b i (by omega), hn]
    exact ⟨by omega, by omega, h2⟩
  · have fa := (ha.fn hi).2
    have fb := (hb.fn hi).2
    rw [rd_orbL a b _ (by omega), rd_orbL a b _ (by omega), rd_orbL a b _ (by omega), hn, low_con fa hi (Con.fa hi).symm, low_con fb hi (Con.fb hi).symm]
    exact ⟨rfl, rfl⟩
theorem IsOrb.eq {n : Nat} {a b o : List Int} (ha : Pts n a) (hb : Pts n b) (h : IsOrb n a b o) : o = orbL a b := h.unique (orbL_isOrb ha hb)
theorem Con.swap {n : Nat} {a b : List Int} {i j : Nat} (h : Con n a b i j) : Con n b a i j := fun c hc => h c (fun q hq => ⟨(hc q hq).2, (hc q hq).1⟩)
theorem orbL_swap {n : Nat} {a b : List Int} (ha : Pts n a) (hb : Pts n b) : orbL a b = orbL b a := by
  have h := orbL_isOrb ha hb
  refine IsOrb.eq hb ha ⟨⟨h.1.1, fun i hi => ?_⟩, fun i hi => ⟨(h.2 i hi).2, (h.2 i hi).1⟩⟩
  obtain ⟨h1, h2, h3⟩ := h.1.2 i hi
  exact ⟨h1, h2, h3.swap⟩
/-! ### How many points are settled -/
def cntP (p : Nat → Bool) : Nat → Nat
  | 0 => 0
  | n + 1 => cntP p n + (if p n = true then 1 else 0)
theorem cntP_le (p : Nat → Bool) : ∀ n, cntP p n ≤ n
  | 0 => Nat.le_refl _
  | n + 1 => by have := cntP_le p n; simp only [cntP]; split <;> omega
theorem cntP_mono (p q : Nat → Bool) : ∀ n, (∀ i, i < n → p i = true → q i = true) → cntP p n ≤ cntP q n
  | 0, _ => Nat.le_refl _
  | n + 1, h => by
    have := cntP_mono p q n (fun i hi => h i (by omega))
    have := h n (by omega)
    simp only [cntP]
    by_cases e : p n = true
    · rw [if_pos e, if_pos (this e)]; omega
    · rw [if_neg e]; split <;> omega
theorem cntP_lt (p q : Nat → Bool) : ∀ n, (∀ i, i < n → p i = true → q i = true) → (∃ i, i < n ∧ p i = false ∧ q i = true) → cntP p n < cntP q n
  | 0, _, h => by obtain ⟨i, hi, _⟩ := h; omega
  | n + 1, h, ⟨i, hi, h1, h2⟩ => by
    have hn := h n (by omega)
    simp only [cntP]
    by_cases e : i = n
    · subst e
      have := cntP_mono p q i (fun j hj => h j (by omega))
      rw [h1, h2]; simp; omega
    · have := cntP_lt p q n (fun j hj => h j (by omega)) ⟨i, by omega, h1, h2⟩
      by_cases e2 : p n = true
      · rw [if_pos e2, if_pos (hn e2)]; omega
      · rw [if_neg e2]; split <;> omega
theorem cntP_all (p : Nat → Bool) : ∀ n, cntP p n = n → ∀ i, i < n → p i = true
  | 0, _, i, hi => by omega
  | n + 1, h, i, hi => by
    have hl := cntP_le p n
    simp only [cntP] at h
    by_cases e : p n = true
    · rw [if_pos e] at h
      by_cases ei : i = n
      · subst ei; exact e
      · exact cntP_all p n (by omega) i (by omega)
    · rw [if_neg e] at h; omega
theorem cntP_pos (p : Nat → Bool) (n i : Nat) (hi : i < n) (h : p i = true) : 1 ≤ cntP p n := by
  have := cntP_lt (fun _ => false) p n (fun _ _ h => by simp at h) ⟨i, hi, rfl, h⟩
  omega
theorem cntP_congr (p q : Nat → Bool) : ∀ n, (∀ i, i < n → p i = q i) → cntP p n = cntP q n
  | 0, _ => rfl
  | n + 1, h => by simp only [cntP]; rw [cntP_congr p q n (fun i hi => h i (by omega)), h n (by omega)]
/-- A whole round: each edge's two ends come to at most what either was. -/
def Rounded (n : Nat) (a b o o' : List Int) : Prop := (∀ i, i < n → rd o' (i : Int) ≤ rd o (i : Int)) ∧ ∀ i, i < n →
  (rd o' (fn a i : Int) ≤ rd o (i : Int) ∧ rd o' (i : Int) ≤ rd o (fn a i : Int)) ∧ (rd o' (fn b i : Int) ≤ rd o (i : Int) ∧ rd o' (i : Int) ≤ rd o (fn b i : Int))
noncomputable def okB (n : Nat) (a b o : List Int) (i : Nat) : Bool := decide (rd o (i : Int) = low n a b i)
theorem round_more {n : Nat} {a b o o' : List Int} (ha : Pts n a) (hb : Pts n b) (h : OrbPre n a b o) (h' : OrbPre n a b o') (hr : Rounded n a b o o') :
    cntP (okB n a b o) n = n ∨ cntP (okB n a b o) n < cntP (okB n a b o') n := by
  have hmono : ∀ i, i < n → okB n a b o i = true → okB n a b o' i = true := by
    intro i hi hk
    unfold okB at *
    have h1 := of_decide_eq_true hk
    have h2 := hr.1 i hi
    have h3 := h'.low_le hi
    exact decide_eq_true (by omega)
  by_cases hall : ∀ i, i < n → okB n a b o i = true
  · left
    have := cntP_mono (fun _ => true) (okB n a b o) n (fun i hi _ => hall i hi)
    have h2 := cntP_le (okB n a b o) n
    have h3 : ∀ m, cntP (fun _ => true) m = m := by
      intro m
      induction m with
      | zero => rfl
      | succ m ih => simp only [cntP, ih]; rfl
    rw [h3] at this; omega
  · right
    refine cntP_lt _ _ n hmono ?_
    refine Classical.byContradiction fun hno => hall ?_
    -- nobody turns good: then goodness is a colouring
    have hst : ∀ i, i < n → okB n a b o i = false → okB n a b o' i = false := by
      intro i hi hf
      cases hq : okB n a b o' i with
      | false => rfl
      | true => exact absurd ⟨i, hi, hf, hq⟩ hno
    have edge : ∀ i j, i < n → j < n → Con n a b i j → rd o' (j : Int) ≤ rd o (i : Int) → okB n a b o i = true → okB n a b o j = true := by
      intro i j hi hj hc hle hk
      cases hq : okB n a b o j with
      | true => rfl
      | false =>
        have h1 := hst j hj hq
        unfold okB at h1 hk
        have h2 := of_decide_eq_true hk
        have h3 := h'.low_le hj
        have h4 := low_con hi hj hc
        exact absurd (show rd o' (j : Int) = low n a b j by omega) (of_decide_eq_false h1)
    have hinv : Inv2 n a b (fun i => if okB n a b o i = true then 1 else 0) := by
      intro i hi
      have fa := (ha.fn hi).2
      have fb := (hb.fn hi).2
      obtain ⟨⟨e1, e2⟩, e3, e4⟩ := hr.2 i hi
      have ea : okB n a b o (fn a i) = true ↔ okB n a b o i = true := ⟨edge _ _ fa hi (Con.fa hi).symm e2, edge _ _ hi fa (Con.fa hi) e1⟩
      have eb : okB n a b o (fn b i) = true ↔ okB n a b o i = true := ⟨edge _ _ fb hi (Con.fb hi).symm e4, edge _ _ hi fb (Con.fb hi) e3⟩
      simp only [ea, eb]
      exact ⟨trivial, trivial⟩
    intro i hi
    obtain ⟨l1, l2, l3⟩ := low_spec (a := a) (b := b) hi
    have hl : low n a b i < n := by omega
    have hgood : okB n a b o (low n a b i) = true := by
      unfold okB
      have h1 := h.2 _ hl
      have h2 := h.low_le hl
      have h3 := low_con hi hl l2
      exact decide_eq_true (by omega)
    have := l2 _ hinv
    simp only [hgood, if_true] at this
    cases hq : okB n a b o i with
    | true => rfl
    | false => rw [hq] at this; simp at this
theorem settled {n : Nat} {a b o : List Int} (ha : Pts n a) (hb : Pts n b) (h : OrbPre n a b o) (hc : cntP (okB n a b o) n = n) : o = orbL a b := by
  refine list_ext_rd (by rw [h.1, orbL_length, ha.1]) (fun i hi => ?_)
  rw [h.1] at hi
  have := of_decide_eq_true (cntP_all _ n hc i hi)
  rw [this, rd_orbL a b i (by rw [ha.1]; exact hi), ha.1]

end Go.Proofs.YtjebcgbmlbemcaaGreatDoor.M
