import Derived.Test.YtjebcgbmlbemcaaGreatDoorMP
set_option linter.unusedVariables false
set_option linter.unusedSimpArgs false
namespace Go.Proofs.YtjebcgbmlbemcaaGreatDoor.M
open Go.RowKit Go.Proofs.YtjebcgbmlbemcaaGreatDoorW.PrintWords

/-! ### Cycles as lists -/
noncomputable def per (f : Nat → Nat) (x : Nat) : Nat := Classical.epsilon (fun p => 1 ≤ p ∧ itr f p x = x ∧ ∀ k, 1 ≤ k → k < p → itr f k x ≠ x)
theorem per_spec {n : Nat} {f g : Nat → Nat} (h : PermN n f g) {x : Nat} (hx : x < n) : 1 ≤ per f x ∧ per f x ≤ n ∧ itr f (per f x) x = x ∧ ∀ k, 1 ≤ k → k < per f x → itr f k x ≠ x := by
  obtain ⟨p, p1, p2, p3, p4⟩ := period h hx
  have hs := Classical.epsilon_spec (p := fun p => 1 ≤ p ∧ itr f p x = x ∧ ∀ k, 1 ≤ k → k < p → itr f k x ≠ x) ⟨p, p1, p3, p4⟩
  have hs' : 1 ≤ per f x ∧ itr f (per f x) x = x ∧ ∀ k, 1 ≤ k → k < per f x → itr f k x ≠ x := hs
  refine ⟨hs'.1, ?_, hs'.2.1, hs'.2.2⟩
  by_cases e : per f x ≤ n
  · exact e
  · exact absurd p3 (hs'.2.2 p p1 (by omega))
noncomputable def cycOf (f : Nat → Nat) (x : Nat) : List Int := (List.range (per f x)).map (fun k => (itr f k x : Int))
theorem cycOf_length (f : Nat → Nat) (x : Nat) : (cycOf f x).length = per f x := by simp [cycOf]
noncomputable def cycUp (n : Nat) (f : Nat → Nat) (i : Nat) : List (List Int) := ((List.range i).filter (lstB (EF n f))).map (cycOf f)
noncomputable def cycL (n : Nat) (f : Nat → Nat) : List (List Int) := cycUp n f n
theorem filter_cntP (p : Nat → Bool) : ∀ n, ((List.range n).filter p).length = cntP p n
  | 0 => rfl
  | n + 1 => by
    rw [List.range_succ, List.filter_append, List.length_append, filter_cntP p n]
    simp only [cntP, List.filter_cons, List.filter_nil]
    split <;> rfl
theorem cycL_length (n : Nat) (f : Nat → Nat) : (cycL n f).length = cyc n f := by
  unfold cycL cycUp cyc clsN
  rw [List.length_map, filter_cntP]
theorem cycUp_length_le (n : Nat) (f : Nat → Nat) (i : Nat) : (cycUp n f i).length ≤ i := by
  unfold cycUp; rw [List.length_map, filter_cntP]; exact cntP_le _ _
theorem cycUp_pos {n : Nat} {f : Nat → Nat} {i : Nat} (h : lstB (EF n f) i = true) : cycUp n f (i + 1) = cycUp n f i ++ [cycOf f i] := by
  unfold cycUp; rw [List.range_succ, List.filter_append, List.map_append]; simp [h]
theorem cycUp_neg {n : Nat} {f : Nat → Nat} {i : Nat} (h : lstB (EF n f) i = false) : cycUp n f (i + 1) = cycUp n f i := by
  unfold cycUp; rw [List.range_succ, List.filter_append, List.map_append]; simp [h]
/-- Which points are seen ahead of the point i. -/
def SeenAt (n : Nat) (f : Nat → Nat) (i : Nat) (b : List Bool) : Prop := b.length = n ∧ ∀ j, j < n → (rdOf false b (j : Int) = true ↔ ∃ r, r < i ∧ ConE (EF n f) r j)
/-- Which points are seen when t points of the cycle of i have been met. -/
def SeenIn (n : Nat) (f : Nat → Nat) (i t : Nat) (b : List Bool) : Prop := b.length = n ∧ ∀ j, j < n → (rdOf false b (j : Int) = true ↔ ((∃ r, r < i ∧ ConE (EF n f) r j) ∨ ∃ s, s < t ∧ j = itr f s i))
theorem rdOf_set_self (o : List Bool) (i : Nat) (x : Bool) (h : i < o.length) : rdOf false (o.set i x) (i : Int) = x := by
  simp [rdOf, List.getD_eq_getElem?_getD, List.getElem?_set_self h]
theorem rdOf_set_ne (o : List Bool) (i j : Nat) (x : Bool) (h : i ≠ j) : rdOf false (o.set i x) (j : Int) = rdOf false o (j : Int) := by
  simp only [rdOf, List.getD_eq_getElem?_getD, Int.toNat_natCast]
  rw [List.getElem?_set_ne h]
theorem SeenAt.start (n : Nat) (f : Nat → Nat) : SeenAt n f 0 (List.replicate n false) := by
  refine ⟨List.length_replicate, fun j hj => ?_⟩
  have : rdOf false (List.replicate n false) (j : Int) = false := by simp [rdOf, List.getD_eq_getElem?_getD, List.getElem?_replicate, hj]
  rw [this]
  exact ⟨fun h => absurd h (by simp), fun ⟨r, hr, _⟩ => absurd hr (Nat.not_lt_zero r)⟩
theorem SeenAt.least {n : Nat} {f : Nat → Nat} {i : Nat} {b : List Bool} (h : SeenAt n f i b) (hi : i < n) : lstB (EF n f) i = !(rdOf false b (i : Int)) := by
  cases q : rdOf false b (i : Int) with
  | true =>
    obtain ⟨r, hr, hc⟩ := (h.2 i hi).1 q
    cases e : lstB (EF n f) i with
    | false => rfl
    | true => exact absurd hc.symm (lstB_iff.1 e r hr)
  | false =>
    refine lstB_iff.2 (fun j hj hc => ?_)
    have := (h.2 i hi).2 ⟨j, hj, hc.symm⟩
    rw [q] at this; cases this
theorem SeenAt.skip {n : Nat} {f : Nat → Nat} {i : Nat} {b : List Bool} (h : SeenAt n f i b) (hi : i < n) (q : rdOf false b (i : Int) = true) : SeenAt n f (i + 1) b := by
  refine ⟨h.1, fun j hj => (h.2 j hj).trans ⟨fun ⟨r, hr, hc⟩ => ⟨r, by omega, hc⟩, fun ⟨r, hr, hc⟩ => ?_⟩⟩
  by_cases e : r = i
  · subst e
    obtain ⟨r', hr', hc'⟩ := (h.2 r hi).1 q
    exact ⟨r', hr', hc'.trans hc⟩
  · exact ⟨r, by omega, hc⟩
theorem SeenAt.into {n : Nat} {f : Nat → Nat} {i : Nat} {b : List Bool} (h : SeenAt n f i b) : SeenIn n f i 0 b :=
  ⟨h.1, fun j hj => (h.2 j hj).trans ⟨.inl, fun h => h.elim id (fun ⟨s, hs, _⟩ => absurd hs (Nat.not_lt_zero s))⟩⟩
/-- Within the period the next point is not yet seen. -/
theorem SeenIn.fresh {n : Nat} {f g : Nat → Nat} (hp : PermN n f g) {i t : Nat} {b : List Bool} (h : SeenIn n f i t b) (hi : i < n) (hl : lstB (EF n f) i = true) (ht : t < per f i) : rdOf false b (itr f t i : Int) = false := by
  cases q : rdOf false b (itr f t i : Int) with
  | false => rfl
  | true =>
    obtain ⟨p1, p2, p3, p4⟩ := per_spec hp hi
    rcases (h.2 _ (itr_lt hp hi t)).1 q with ⟨r, hr, hc⟩ | ⟨s, hs, e⟩
    · exact absurd ((itr_con hp hi t).trans hc.symm) (lstB_iff.1 hl r hr)
    · have := itr_cancel hp hi s (t - s) (by rw [show s + (t - s) = t by omega]; exact e.symm)
      exact absurd this (p4 (t - s) (by omega) (by omega))
theorem SeenIn.next {n : Nat} {f g : Nat → Nat} (hp : PermN n f g) {i t : Nat} {b : List Bool} (h : SeenIn n f i t b) (hi : i < n) : SeenIn n f i (t + 1) (b.set (itr f t i) true) := by
  refine ⟨by rw [List.length_set]; exact h.1, fun j hj => ?_⟩
  by_cases e : itr f t i = j
  · rw [← e, rdOf_set_self _ _ _ (by rw [h.1]; exact itr_lt hp hi t)]
    exact ⟨fun _ => .inr ⟨t, by omega, rfl⟩, fun _ => rfl⟩
  · rw [rdOf_set_ne _ _ _ _ e, h.2 j hj]
    constructor
    · rintro (k | ⟨s, hs, k⟩)
      · exact .inl k
      · exact .inr ⟨s, by omega, k⟩
    · rintro (k | ⟨s, hs, k⟩)
      · exact .inl k
      · refine .inr ⟨s, ?_, k⟩
        by_cases e2 : s = t
        · subst e2; exact absurd k.symm e
        · omega
/-- At the period the cycle is closed. -/
theorem SeenIn.closed {n : Nat} {f g : Nat → Nat} (hp : PermN n f g) {i : Nat} {b : List Bool} (h : SeenIn n f i (per f i) b) (hi : i < n) : rdOf false b (itr f (per f i) i : Int) = true ∧ SeenAt n f (i + 1) b := by
  obtain ⟨p1, p2, p3, p4⟩ := per_spec hp hi
  refine ⟨(h.2 _ (itr_lt hp hi _)).2 (.inr ⟨0, by omega, p3⟩), h.1, fun j hj => (h.2 j hj).trans ?_⟩
  constructor
  · rintro (⟨r, hr, hc⟩ | ⟨s, hs, rfl⟩)
    · exact ⟨r, by omega, hc⟩
    · exact ⟨i, by omega, itr_con hp hi s⟩
  · rintro ⟨r, hr, hc⟩
    by_cases e : r = i
    · subst e
      obtain ⟨m, hm, e⟩ := con_itr hp hi p1 p3 hc
      exact .inr ⟨m, hm, e⟩
    · exact .inl ⟨r, by omega, hc⟩
theorem cycOf_take (f : Nat → Nat) (x t : Nat) : (List.range (t + 1)).map (fun k => (itr f k x : Int)) = (List.range t).map (fun k => (itr f k x : Int)) ++ [(itr f t x : Int)] := by
  rw [List.range_succ, List.map_append]; rfl
/-! ### Lists of numbers that are permutations -/
def PermL (n : Nat) (p : List Int) : Prop := Pts n p ∧ ∀ i j, i < n → j < n → fn p i = fn p j → i = j
noncomputable def bck (n : Nat) (f : Nat → Nat) (j : Nat) : Nat := Classical.epsilon (fun i => i < n ∧ f i = j)
/-- A point that nothing leads to would leave too little room. -/
theorem onto_of_inj : ∀ (n : Nat) (f : Nat → Nat), (∀ i, i < n → f i < n) → (∀ i j, i < n → j < n → f i = f j → i = j) → ∀ j, j < n → ∃ i, i < n ∧ f i = j := by
  intro n f hf hinj j hj
  refine Classical.byContradiction fun hno => ?_
  obtain ⟨m, rfl⟩ : ∃ m, n = m + 1 := ⟨n - 1, by omega⟩
  -- squeeze the value j out
  obtain ⟨a, b, hab, hb, e⟩ := pigeon m (fun i => if f i < j then f i else f i - 1) (fun i hi => by
    have h1 := hf i hi
    have h2 : f i ≠ j := fun q => hno ⟨i, hi, q⟩
    show (if f i < j then f i else f i - 1) < m
    split <;> omega)
  have h1 : f a ≠ j := fun q => hno ⟨a, by omega, q⟩
  have h2 : f b ≠ j := fun q => hno ⟨b, by omega, q⟩
  have e' : (if f a < j then f a else f a - 1) = (if f b < j then f b else f b - 1) := e
  have : f a = f b := by
    split at e' <;> split at e' <;> omega
  have := hinj a b (by omega) (by omega) this
  omega
theorem permN_of_inj {n : Nat} {f : Nat → Nat} (hf : ∀ i, i < n → f i < n) (hinj : ∀ i j, i < n → j < n → f i = f j → i = j) : PermN n f (bck n f) := by
  have hs : ∀ j, j < n → bck n f j < n ∧ f (bck n f j) = j := fun j hj => Classical.epsilon_spec (onto_of_inj n f hf hinj j hj)
  exact ⟨hf, fun i hi => (hs i hi).1, fun i hi => hinj _ _ (hs _ (hf i hi)).1 hi (hs _ (hf i hi)).2, fun i hi => (hs i hi).2⟩
theorem PermL.perm {n : Nat} {p : List Int} (h : PermL n p) : PermN n (fn p) (bck n (fn p)) := permN_of_inj (fun i hi => (h.1.fn hi).2) h.2
/-- The product: first the one and then the other. -/
def mulL (a b : List Int) : List Int := a.map (fun x => rd b x)
theorem mulL_length (a b : List Int) : (mulL a b).length = a.length := by simp [mulL]
theorem rd_mulL (a b : List Int) (i : Nat) (h : i < a.length) : rd (mulL a b) (i : Int) = rd b (rd a (i : Int)) := by
  rw [rd_nat _ _ (by rw [mulL_length]; exact h), rd_nat a i h]; simp [mulL]
theorem mulL_pts {n : Nat} {a b : List Int} (ha : Pts n a) (hb : Pts n b) : Pts n (mulL a b) := by
  refine ⟨by rw [mulL_length, ha.1], fun i hi => ?_⟩
  rw [rd_mulL a b i (by rw [ha.1]; exact hi), (ha.fn hi).1]
  exact hb.2 _ (ha.fn hi).2
theorem fn_mulL {n : Nat} {a b : List Int} (ha : Pts n a) {i : Nat} (hi : i < n) : fn (mulL a b) i = fn b (fn a i) := by
  unfold fn
  rw [rd_mulL a b i (by rw [ha.1]; exact hi)]
  have := (ha.fn hi).1
  rw [this]; rfl
theorem mulL_perm {n : Nat} {a b : List Int} (ha : PermL n a) (hb : PermL n b) : PermL n (mulL a b) := by
  refine ⟨mulL_pts ha.1 hb.1, fun i j hi hj e => ?_⟩
  rw [fn_mulL ha.1 hi, fn_mulL ha.1 hj] at e
  exact ha.2 i j hi hj (hb.2 _ _ (ha.1.fn hi).2 (ha.1.fn hj).2 e)
/-- What leads back. -/
noncomputable def backL (p : List Int) : List Int := (List.range p.length).map (fun j => (bck p.length (fn p) j : Int))
theorem backL_length (p : List Int) : (backL p).length = p.length := by simp [backL]
theorem rd_backL (p : List Int) (j : Nat) (h : j < p.length) : rd (backL p) (j : Int) = bck p.length (fn p) j := by
  rw [rd_nat _ _ (by rw [backL_length]; exact h)]; simp [backL]
theorem fn_backL {n : Nat} {p : List Int} (hp : PermL n p) {j : Nat} (h : j < n) : fn (backL p) j = bck n (fn p) j := by
  unfold fn; rw [rd_backL p j (by rw [hp.1.1]; exact h), hp.1.1]; rfl
theorem backL_perm {n : Nat} {p : List Int} (hp : PermL n p) : PermL n (backL p) := by
  have h := hp.perm
  refine ⟨⟨by rw [backL_length, hp.1.1], fun i hi => ?_⟩, fun i j hi hj e => ?_⟩
  · rw [rd_backL p i (by rw [hp.1.1]; exact hi), hp.1.1]
    have := h.gl i hi; omega
  · rw [fn_backL hp hi, fn_backL hp hj] at e
    rw [← h.fg i hi, e, h.fg j hj]
theorem idL_perm (n : Nat) : PermL n (idL n) := by
  refine ⟨⟨idL_length n, fun i hi => by rw [rd_idL n i hi]; omega⟩, fun i j hi hj e => ?_⟩
  unfold fn at e; rw [rd_idL n i hi, rd_idL n j hj] at e
  omega
theorem fn_idL {n i : Nat} (hi : i < n) : fn (idL n) i = i := by unfold fn; rw [rd_idL n i hi]; rfl
theorem pts_ext {n : Nat} {a b : List Int} (ha : Pts n a) (hb : Pts n b) (h : ∀ i, i < n → fn a i = fn b i) : a = b := by
  refine list_ext_rd (by rw [ha.1, hb.1]) (fun i hi => ?_)
  rw [ha.1] at hi
  rw [(ha.fn hi).1, (hb.fn hi).1, h i hi]
noncomputable def dec (P : Prop) : Bool := @decide P (Classical.propDecidable P)
theorem dec_iff {P : Prop} : dec P = true ↔ P := by unfold dec; exact @decide_eq_true_iff P (Classical.propDecidable P)
theorem dec_t {P : Prop} (h : P) : dec P = true := dec_iff.2 h
theorem dec_f {P : Prop} (h : ¬ P) : dec P = false := Bool.eq_false_iff.2 (fun k => h (dec_iff.1 k))
theorem dec_of {P Q : Prop} [Decidable P] (h : P ↔ Q) : decide P = dec Q := by
  by_cases q : Q
  · rw [dec_t q, decide_eq_true (h.2 q)]
  · rw [dec_f q, decide_eq_false (fun k => q (h.1 k))]
theorem dec_congr {P Q : Prop} (h : P ↔ Q) : dec P = dec Q := by rw [propext h]
/-- A permutation of at most twelve points. -/
def POK (p : List Int) : Prop := (1 ≤ p.length ∧ p.length ≤ 12) ∧ PermL p.length p
/-- A map: two permutations, the second one of pairs, that hang together. -/
def MOK (t f : List Int) : Prop := POK t ∧ POK f ∧ t.length = f.length ∧ (∀ i, i < f.length → fn f i ≠ i ∧ fn f (fn f i) = i) ∧ ∀ i, i < t.length → rd (orbL t f) (i : Int) = 0
noncomputable def genZ (t f : List Int) : Int := Int.tdiv (2 - (cyc t.length (fn t) : Int) + (f.length / 2 : Nat) - (cyc f.length (fn (mulL f t)) : Int)) 2
theorem cyc_le (n : Nat) (f : Nat → Nat) : cyc n f ≤ n := cntP_le _ _

end Go.Proofs.YtjebcgbmlbemcaaGreatDoor.M
