import Derived.Test.YtjebcgbmlbemcaaGreatDoorMB
set_option linter.unusedVariables false
set_option linter.unusedSimpArgs false
namespace Go.Proofs.YtjebcgbmlbemcaaGreatDoor.M
open Go.RowKit Go.Proofs.YtjebcgbmlbemcaaGreatDoorW.PrintWords

/-! ### Edges, voltages, covers -/
def lowD (f : List Int) (j : Nat) : Bool := decide (j < fn f j)
def edgeN (f : List Int) (d : Nat) : Nat := cntP (lowD f) (if d < fn f d then d else fn f d)
def edgL (f : List Int) : List Int := (List.range f.length).map (fun d => (edgeN f d : Int))
theorem edgL_length (f : List Int) : (edgL f).length = f.length := by simp [edgL]
theorem rd_edgL (f : List Int) (d : Nat) (h : d < f.length) : rd (edgL f) (d : Int) = edgeN f d := by
  rw [rd_nat _ _ (by rw [edgL_length]; exact h)]; simp [edgL]
/-- The pairs of a map's darts. -/
structure PairL (n : Nat) (f : List Int) : Prop where
  pts : Pts n f
  ne : ∀ i, i < n → fn f i ≠ i
  inv : ∀ i, i < n → fn f (fn f i) = i
theorem MOK.pair {t f : List Int} (h : MOK t f) : PairL t.length f := by
  obtain ⟨h1, h2, h3, h4, h5⟩ := h
  refine ⟨by have := h2.2.1; rw [← h3] at this; exact this, fun i hi => (h4 i (by omega)).1, fun i hi => (h4 i (by omega)).2⟩
theorem cntP_step (p : Nat → Bool) {a b : Nat} (ha : p a = true) (h : a < b) : cntP p a < cntP p b := by
  have h1 : cntP p (a + 1) = cntP p a + 1 := by simp only [cntP]; rw [if_pos ha]
  have h2 : ∀ {m n : Nat}, m ≤ n → cntP p m ≤ cntP p n := by
    intro m n
    induction n with
    | zero => intro hmn; obtain rfl : m = 0 := by omega
              exact Nat.le_refl _
    | succ n ih =>
      intro hmn
      by_cases e : m = n + 1
      · subst e; exact Nat.le_refl _
      · have := ih (by omega); simp only [cntP]; omega
  have := h2 (show a + 1 ≤ b by omega)
  omega
theorem PairL.flip {n : Nat} {f : List Int} (h : PairL n f) {i : Nat} (hi : i < n) : fn f i < n ∧ (lowD f (fn f i) = !lowD f i) := by
  have h1 := (h.pts.fn hi).2
  have h2 := h.ne i hi
  refine ⟨h1, ?_⟩
  unfold lowD
  rw [h.inv i hi]
  by_cases e : i < fn f i
  · rw [decide_eq_true e, decide_eq_false (by omega)]; rfl
  · rw [decide_eq_false e, decide_eq_true (by omega)]; rfl
theorem PairL.half {n : Nat} {f : List Int} (h : PairL n f) : 2 * cntP (lowD f) n = n := by
  have h1 := cntP_not (lowD f) n
  have h2 := cntP_perm (lowD f) (n := n) (fn f) (fn f) (fun i hi => ⟨(h.pts.fn hi).2, h.inv i hi⟩) (fun i hi => ⟨(h.pts.fn hi).2, h.inv i hi⟩)
  have h3 : cntP (fun i => lowD f (fn f i)) n = cntP (fun i => !lowD f i) n := cntP_congr _ _ _ (fun i hi => (h.flip hi).2)
  omega
/-- The lesser dart of an edge. -/
theorem PairL.low {n : Nat} {f : List Int} (h : PairL n f) {d : Nat} (hd : d < n) : ∃ a, a < n ∧ lowD f a = true ∧ edgeN f d = cntP (lowD f) a ∧ (d = a ∨ d = fn f a) := by
  have h1 := (h.pts.fn hd).2
  have h2 := h.ne d hd
  unfold edgeN
  by_cases e : d < fn f d
  · rw [if_pos e]; exact ⟨d, hd, decide_eq_true e, rfl, .inl rfl⟩
  · rw [if_neg e]; exact ⟨fn f d, h1, by unfold lowD; rw [h.inv d hd]; exact decide_eq_true (by omega), rfl, .inr (h.inv d hd).symm⟩
theorem PairL.edge_lt {n : Nat} {f : List Int} (h : PairL n f) {d : Nat} (hd : d < n) : edgeN f d < n / 2 := by
  obtain ⟨a, a1, a2, a3, a4⟩ := h.low hd
  have := cntP_step (lowD f) a2 a1
  have := h.half
  omega
theorem PairL.edge_of {n : Nat} {f : List Int} (h : PairL n f) {a : Nat} (ha : a < n) (hl : lowD f a = true) : edgeN f a = cntP (lowD f) a ∧ edgeN f (fn f a) = cntP (lowD f) a := by
  have e : a < fn f a := of_decide_eq_true hl
  unfold edgeN
  rw [if_pos e, h.inv a ha, if_neg (by omega)]
  exact ⟨rfl, rfl⟩
noncomputable def voltL (f : List Int) (v : List (List Int)) (d : Nat) : List Int := if d < fn f d then rdL v (edgeN f d : Int) else backL (rdL v (edgeN f d : Int))
/-- What a voltage is, over natural numbers. -/
structure VN (n κ : Nat) (t f : List Int) (v : List (List Int)) : Prop where
  tp : PermL n t
  fp : PermL n f
  pr : PairL n f
  n0 : 1 ≤ n
  n1 : n ≤ 12
  k0 : 1 ≤ κ
  k1 : κ ≤ 6
  nk : κ * n ≤ 12
  vl : v.length = n / 2
  vp : ∀ e : Nat, e < v.length → PermL κ (rdL v (e : Int))
theorem VOK.vn {t f : List Int} {k : Int} {v : List (List Int)} (h : VOK t f k v) : ∃ κ : Nat, k = (κ : Int) ∧ VN t.length κ t f v := by
  obtain ⟨h1, h2, h3, h4, h5⟩ := h
  have hz := h1.size
  refine ⟨k.toNat, by omega, h1.permT, h1.permF, h1.pair, by omega, by omega, by omega, by omega, ?_, by rw [h4, hz.2.2], fun e he => ?_⟩
  · obtain ⟨κ, rfl⟩ : ∃ κ : Nat, k = (κ : Int) := ⟨k.toNat, by omega⟩
    rw [Int.toNat_natCast, Nat.mul_comm]
    have : ((t.length * κ : Nat) : Int) = (t.length : Int) * (κ : Int) := Int.natCast_mul _ _
    omega
  · obtain ⟨p1, p2⟩ := h5 e he
    have := p1.2
    rw [show (rdL v (e : Int)).length = k.toNat by omega] at this
    exact this
theorem VN.volt {n κ : Nat} {t f : List Int} {v : List (List Int)} (h : VN n κ t f v) {d : Nat} (hd : d < n) : PermL κ (voltL f v d) := by
  have := h.vp (edgeN f d) (by rw [h.vl]; exact h.pr.edge_lt hd)
  unfold voltL
  split
  · exact this
  · exact backL_perm this
def covT (n κ : Nat) (t : List Int) (m : Nat) : List Int := (List.range m).map (fun x => ((κ * fn t (x / κ) + x % κ : Nat) : Int))
noncomputable def covF (κ : Nat) (f : List Int) (v : List (List Int)) (m : Nat) : List Int := (List.range m).map (fun x => ((κ * fn f (x / κ) + fn (voltL f v (x / κ)) (x % κ) : Nat) : Int))
theorem covT_length (n κ : Nat) (t : List Int) (m : Nat) : (covT n κ t m).length = m := by simp [covT]
theorem covF_length (κ : Nat) (f : List Int) (v : List (List Int)) (m : Nat) : (covF κ f v m).length = m := by simp [covF]
theorem rd_covT (n κ : Nat) (t : List Int) (m x : Nat) (h : x < m) : rd (covT n κ t m) (x : Int) = ((κ * fn t (x / κ) + x % κ : Nat) : Int) := by
  rw [rd_nat _ _ (by rw [covT_length]; exact h)]; simp [covT]
theorem rd_covF (κ : Nat) (f : List Int) (v : List (List Int)) (m x : Nat) (h : x < m) : rd (covF κ f v m) (x : Int) = ((κ * fn f (x / κ) + fn (voltL f v (x / κ)) (x % κ) : Nat) : Int) := by
  rw [rd_nat _ _ (by rw [covF_length]; exact h)]; simp [covF]
theorem covT_succ (n κ : Nat) (t : List Int) (m : Nat) : covT n κ t (m + 1) = covT n κ t m ++ [((κ * fn t (m / κ) + m % κ : Nat) : Int)] := by
  unfold covT; rw [List.range_succ, List.map_append]; rfl
theorem covF_succ (κ : Nat) (f : List Int) (v : List (List Int)) (m : Nat) : covF κ f v (m + 1) = covF κ f v m ++ [((κ * fn f (m / κ) + fn (voltL f v (m / κ)) (m % κ) : Nat) : Int)] := by
  unfold covF; rw [List.range_succ, List.map_append]; rfl
theorem sheet_num {κ d s : Nat} (hs : s < κ) : (κ * d + s) / κ = d ∧ (κ * d + s) % κ = s := by
  constructor
  · rw [Nat.mul_add_div (by omega), Nat.div_eq_of_lt hs, Nat.add_zero]
  · rw [Nat.mul_add_mod, Nat.mod_eq_of_lt hs]
theorem sheet_lt {κ n d s : Nat} (hd : d < n) (hs : s < κ) : κ * d + s < κ * n := by
  have h : κ * (d + 1) ≤ κ * n := Nat.mul_le_mul_left κ hd
  rw [Nat.mul_succ] at h
  omega
theorem mul_nums {κ a b : Nat} (hκ : κ ≤ 6) (ha : a ≤ 12) (hb : b ≤ 12) : wrap64 (wrap64 ((κ : Int) * (a : Int)) + (b : Int)) = ((κ * a + b : Nat) : Int) := by
  have h1 : κ * a ≤ 6 * 12 := Nat.mul_le_mul hκ ha
  have h2 : (κ : Int) * (a : Int) = ((κ * a : Nat) : Int) := (Int.natCast_mul _ _).symm
  rw [h2, wrap64_id (x := ((κ * a : Nat) : Int)) (by omega) (by omega), wrap64_id (by omega) (by omega)]
  omega
/-- Whole covers. -/
noncomputable def covOK (t f : List Int) (k : Int) (v : List (List Int)) : Prop := VOK t f k v ∧ MOK (covT t.length k.toNat t (k.toNat * t.length)) (covF k.toNat f v (k.toNat * t.length))
/-! ### Windings -/
noncomputable def windUp (κ : Nat) (f : List Int) (v : List (List Int)) (face : List Int) : Nat → List Int
  | 0 => idL κ
  | i + 1 => mulL (windUp κ f v face i) (voltL f v (fn face i))
noncomputable def windL (κ : Nat) (f : List Int) (v : List (List Int)) (face : List Int) : List Int := windUp κ f v face face.length
def Face (n : Nat) (face : List Int) : Prop := face.length ≤ n ∧ ∀ i : Nat, i < face.length → 0 ≤ rd face (i : Int) ∧ rd face (i : Int) < n
theorem Face.fn {n : Nat} {face : List Int} (h : Face n face) {i : Nat} (hi : i < face.length) : rd face (i : Int) = (fn face i : Int) ∧ fn face i < n := by
  have := h.2 i hi
  unfold M.fn
  omega
theorem windUp_perm {n κ : Nat} {t f : List Int} {v : List (List Int)} (h : VN n κ t f v) {face : List Int} (hf : Face n face) : ∀ i, i ≤ face.length → PermL κ (windUp κ f v face i)
  | 0, _ => idL_perm κ
  | i + 1, hi => mulL_perm (windUp_perm h hf i (by omega)) (h.volt (hf.fn (show i < face.length by omega)).2)
theorem cycOf_face {n : Nat} {f g : Nat → Nat} (h : PermN n f g) {x : Nat} (hx : x < n) : Face n (cycOf f x) := by
  obtain ⟨p1, p2, p3, p4⟩ := per_spec h hx
  refine ⟨by rw [cycOf_length]; exact p2, fun i hi => ?_⟩
  rw [cycOf_length] at hi
  rw [rd_nat _ _ (by rw [cycOf_length]; exact hi)]
  have := itr_lt h hx i
  simp [cycOf]
  omega
theorem cycL_face {n : Nat} {f g : Nat → Nat} (h : PermN n f g) {i : Nat} (hi : i < (cycL n f).length) : Face n (rdL (cycL n f) (i : Int)) := by
  rw [rdL_nat _ _ hi]
  have := List.getElem_mem hi
  obtain ⟨x, hx, e⟩ := List.mem_map.1 this
  have hx' := List.mem_range.1 (List.mem_filter.1 hx).1
  rw [← e]
  exact cycOf_face h hx'
noncomputable def brUp (κ : Nat) (f : List Int) (v : List (List Int)) (faces : List (List Int)) : Nat → Int
  | 0 => 0
  | i + 1 => brUp κ f v faces i + ((κ : Int) - (cyc κ (fn (windL κ f v (rdL faces (i : Int)))) : Int))
theorem brUp_bd (κ : Nat) (f : List Int) (v : List (List Int)) (faces : List (List Int)) (hκ : κ ≤ 6) : ∀ i, 0 ≤ brUp κ f v faces i ∧ brUp κ f v faces i ≤ 6 * (i : Int)
  | 0 => ⟨Int.le_refl _, Int.le_refl _⟩
  | i + 1 => by
    have := brUp_bd κ f v faces hκ i
    have hc := cyc_le κ (fn (windL κ f v (rdL faces (i : Int))))
    simp only [brUp]; omega
noncomputable def facesL (t f : List Int) : List (List Int) := cycL t.length (fn (mulL f t))
noncomputable def branchZ (t f : List Int) (k : Int) (v : List (List Int)) : Int := brUp k.toNat f v (facesL t f) (facesL t f).length

end Go.Proofs.YtjebcgbmlbemcaaGreatDoor.M
