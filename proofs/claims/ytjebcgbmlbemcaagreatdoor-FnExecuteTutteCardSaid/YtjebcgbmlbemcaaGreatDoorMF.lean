import Derived.Test.YtjebcgbmlbemcaaGreatDoorMD
set_option linter.unusedVariables false
set_option linter.unusedSimpArgs false
namespace Go.Proofs.YtjebcgbmlbemcaaGreatDoor.M
open Go.RowKit Go.Proofs.YtjebcgbmlbemcaaGreatDoorW.PrintWords

/-! ### Faces that hold a dart -/
def Holds (face : List Int) (d : Int) : Prop := ∃ j : Nat, j < face.length ∧ rd face (j : Int) = d
noncomputable def faceIx (faces : List (List Int)) (d : Int) : Nat := Classical.epsilon (fun i => i < faces.length ∧ Holds (rdL faces (i : Int)) d ∧ ∀ i', i' < i → ¬ Holds (rdL faces (i' : Int)) d)
theorem faceIx_spec {faces : List (List Int)} {d : Int} (h : ∃ i, i < faces.length ∧ Holds (rdL faces (i : Int)) d) : faceIx faces d < faces.length ∧ Holds (rdL faces (faceIx faces d : Int)) d ∧ ∀ i', i' < faceIx faces d → ¬ Holds (rdL faces (i' : Int)) d := by
  obtain ⟨i, h1, h2⟩ := h
  obtain ⟨m, ⟨m1, m2⟩, m3⟩ := least_of (fun i => i < faces.length ∧ Holds (rdL faces (i : Int)) d) i ⟨h1, h2⟩
  exact Classical.epsilon_spec (p := fun i => i < faces.length ∧ Holds (rdL faces (i : Int)) d ∧ ∀ i', i' < i → ¬ Holds (rdL faces (i' : Int)) d) ⟨m, m1, m2, fun i' hi' w => by have := m3 i' ⟨by omega, w⟩; omega⟩
theorem cycL_holds {n : Nat} {f g : Nat → Nat} (h : PermN n f g) {d : Nat} (hd : d < n) : ∃ i, i < (cycL n f).length ∧ Holds (rdL (cycL n f) (i : Int)) (d : Int) := by
  obtain ⟨r, r1, r2, r3⟩ := least_con (EF n f) d
  have hr : r < n := by omega
  have hl : lstB (EF n f) r = true := lstB_iff.2 (fun j hj hc => by have := r3 j (r1.trans hc); omega)
  obtain ⟨p1, p2, p3, p4⟩ := per_spec h hr
  obtain ⟨m, hm, e⟩ := con_itr h hr p1 p3 r1.symm
  have hmem : cycOf f r ∈ cycL n f := List.mem_map.2 ⟨r, List.mem_filter.2 ⟨List.mem_range.2 hr, hl⟩, rfl⟩
  obtain ⟨i, hi, e2⟩ := List.getElem_of_mem hmem
  refine ⟨i, hi, m, ?_, ?_⟩
  · rw [rdL_nat _ _ hi, e2, cycOf_length]; exact hm
  · rw [rdL_nat _ _ hi, e2, rd_nat _ _ (by rw [cycOf_length]; exact hm)]
    simp [cycOf, e]
noncomputable def windZ (t f : List Int) (k : Int) (v : List (List Int)) (d : Int) : List Int := windL k.toNat f v (rdL (facesL t f) (faceIx (facesL t f) d : Int))
theorem VN.faces {n κ : Nat} {t f : List Int} {v : List (List Int)} (h : VN n κ t f v) : t.length = n ∧ PermL n (mulL f t) ∧ (facesL t f).length ≤ 12 := by
  have hl := h.tp.1.1
  have hn := h.n1
  refine ⟨hl, mulL_perm h.fp h.tp, ?_⟩
  unfold facesL; rw [cycL_length]; have := cyc_le t.length (fn (mulL f t)); omega
theorem windZ_perm {n κ : Nat} {t f : List Int} {v : List (List Int)} (h : VN n κ t f v) {d : Nat} (hd : d < n) : PermL κ (windZ t f (κ : Int) v (d : Int)) := by
  obtain ⟨hl, hm, _⟩ := h.faces
  subst hl
  obtain ⟨q1, q2, q3⟩ := faceIx_spec (cycL_holds hm.perm hd)
  exact windUp_perm h (cycL_face hm.perm q1) _ (Nat.le_refl _)
/-! ### Covers that move nothing -/
def flatL (k m : Nat) : List (List Int) := List.replicate m (idL k)
theorem flatL_length (k m : Nat) : (flatL k m).length = m := by simp [flatL]
theorem rdL_flatL (k m i : Nat) (h : i < m) : rdL (flatL k m) (i : Int) = idL k := by
  rw [rdL_nat _ _ (by rw [flatL_length]; exact h)]; simp [flatL]
theorem flatL_succ (k m : Nat) : flatL k (m + 1) = flatL k m ++ [idL k] := by unfold flatL; exact List.replicate_succ'
theorem idL_pok {k : Nat} (h0 : 1 ≤ k) (h1 : k ≤ 12) : POK (idL k) := by
  refine ⟨by rw [idL_length]; omega, ?_⟩
  rw [idL_length]; exact idL_perm k
theorem flat_vok {t f : List Int} {k : Nat} (h : MOK t f) (h0 : 1 ≤ k) (h1 : k ≤ 6) (h2 : t.length * k ≤ 12) : VOK t f (k : Int) (flatL k (f.length / 2)) := by
  refine ⟨h, by omega, ?_, flatL_length _ _, fun e he => ?_⟩
  · have : ((t.length * k : Nat) : Int) = (t.length : Int) * (k : Int) := Int.natCast_mul _ _
    omega
  · rw [flatL_length] at he
    rw [rdL_flatL _ _ _ he]
    exact ⟨idL_pok h0 (by omega), by rw [idL_length]⟩
/-- A cover with one sheet is the map. -/
theorem cov_one {n : Nat} {t f : List Int} {v : List (List Int)} (h : VN n 1 t f v) : covT n 1 t (1 * n) = t ∧ covF 1 f v (1 * n) = f := by
  have tl := h.tp.1.1
  have fl := h.fp.1.1
  constructor
  · refine list_ext_rd (by rw [covT_length, tl]; omega) (fun i hi => ?_)
    rw [covT_length] at hi
    rw [rd_covT _ _ _ _ _ hi, Nat.div_one, Nat.mod_one, (h.tp.1.fn (show i < n by omega)).1]
    congr 1; omega
  · refine list_ext_rd (by rw [covF_length, fl]; omega) (fun i hi => ?_)
    rw [covF_length] at hi
    have hv := (h.volt (show i < n by omega)).1.fn (show 0 < 1 by omega)
    rw [rd_covF _ _ _ _ _ hi, Nat.div_one, Nat.mod_one, (h.fp.1.fn (show i < n by omega)).1]
    congr 1; omega
/-! ### Shifts of all sheets -/
def shL (κ : Nat) (by_ : List Int) (m : Nat) : List Int := (List.range m).map (fun x => ((κ * (x / κ) + fn by_ (x % κ) : Nat) : Int))
theorem shL_length (κ : Nat) (by_ : List Int) (m : Nat) : (shL κ by_ m).length = m := by simp [shL]
theorem rd_shL (κ : Nat) (by_ : List Int) (m x : Nat) (h : x < m) : rd (shL κ by_ m) (x : Int) = ((κ * (x / κ) + fn by_ (x % κ) : Nat) : Int) := by
  rw [rd_nat _ _ (by rw [shL_length]; exact h)]; simp [shL]
theorem fn_shL (κ : Nat) (by_ : List Int) (m x : Nat) (h : x < m) : fn (shL κ by_ m) x = κ * (x / κ) + fn by_ (x % κ) := by unfold fn; rw [rd_shL _ _ _ _ h]; rfl
theorem shL_succ (κ : Nat) (by_ : List Int) (m : Nat) : shL κ by_ (m + 1) = shL κ by_ m ++ [((κ * (m / κ) + fn by_ (m % κ) : Nat) : Int)] := by
  unfold shL; rw [List.range_succ, List.map_append]; rfl
theorem sheet_of {κ n x : Nat} (hκ : 1 ≤ κ) (h : x < κ * n) : x / κ < n ∧ x % κ < κ ∧ κ * (x / κ) + x % κ = x := by
  refine ⟨(Nat.div_lt_iff_lt_mul hκ).2 (by rw [Nat.mul_comm]; exact h), Nat.mod_lt _ (by omega), Nat.div_add_mod x κ⟩
theorem shL_perm {κ n : Nat} {by_ : List Int} (hκ : 1 ≤ κ) (hb : PermL κ by_) : PermL (κ * n) (shL κ by_ (κ * n)) := by
  refine ⟨⟨shL_length _ _ _, fun x hx => ?_⟩, fun x y hx hy e => ?_⟩
  · obtain ⟨s1, s2, s3⟩ := sheet_of hκ hx
    rw [rd_shL _ _ _ _ hx]
    have := sheet_lt s1 (hb.1.fn s2).2
    omega
  · obtain ⟨s1, s2, s3⟩ := sheet_of hκ hx
    obtain ⟨u1, u2, u3⟩ := sheet_of hκ hy
    rw [fn_shL _ _ _ _ hx, fn_shL _ _ _ _ hy] at e
    have b1 := (hb.1.fn s2).2
    have b2 := (hb.1.fn u2).2
    have e1 := (sheet_num (d := x / κ) b1).1
    have e2 := (sheet_num (d := y / κ) b2).1
    have e3 := (sheet_num (d := x / κ) b1).2
    have e4 := (sheet_num (d := y / κ) b2).2
    rw [e] at e1 e3
    have q1 : x / κ = y / κ := by rw [← e1, e2]
    have q2 : x % κ = y % κ := hb.2 _ _ s2 u2 (by rw [← e3, e4])
    rw [← s3, ← u3, q1, q2]
/-- A permutation renamed is itself just where the two commute. -/
theorem conj_self {n : Nat} {x b : List Int} (hx : PermL n x) (hb : PermL n b) : mulL (mulL (backL b) x) b = x ↔ ∀ i, i < n → fn x (fn b i) = fn b (fn x i) := by
  have hbk := backL_perm hb
  have hm := mulL_perm hbk hx
  have hmm := mulL_perm hm hb
  have bl := hb.1.1
  have hv : ∀ j, j < n → fn (mulL (mulL (backL b) x) b) j = fn b (fn x (bck n (fn b) j)) := fun j hj => by
    rw [fn_mulL hm.1 hj, fn_mulL hbk.1 hj, fn_backL hb hj]
  constructor
  · intro e i hi
    have h1 := hv (fn b i) (hb.1.fn hi).2
    rw [e, hb.perm.gf i hi] at h1
    exact h1
  · intro h
    refine pts_ext hmm.1 hx.1 (fun j hj => ?_)
    have hj' := hb.perm.gl j hj
    rw [hv j hj, ← h _ hj', hb.perm.fg j hj]
theorem mul_comm_iff {n : Nat} {a b : List Int} (ha : PermL n a) (hb : PermL n b) : mulL a b = mulL b a ↔ ∀ i, i < n → fn b (fn a i) = fn a (fn b i) := by
  constructor
  · intro e i hi
    rw [← fn_mulL ha.1 hi, e, fn_mulL hb.1 hi]
  · intro h
    exact pts_ext (mulL_pts ha.1 hb.1) (mulL_pts hb.1 ha.1) (fun i hi => by rw [fn_mulL ha.1 hi, fn_mulL hb.1 hi, h i hi])
theorem cov_perm {n κ : Nat} {t f : List Int} {v : List (List Int)} (h : VN n κ t f v) : Pts (κ * n) (covT n κ t (κ * n)) ∧ Pts (κ * n) (covF κ f v (κ * n)) ∧
    (∀ d s, d < n → s < κ → fn (covT n κ t (κ * n)) (κ * d + s) = κ * fn t d + s ∧ fn (covF κ f v (κ * n)) (κ * d + s) = κ * fn f d + fn (voltL f v d) s) := by
  have hk := h.k0
  have val : ∀ d s, d < n → s < κ → fn (covT n κ t (κ * n)) (κ * d + s) = κ * fn t d + s ∧ fn (covF κ f v (κ * n)) (κ * d + s) = κ * fn f d + fn (voltL f v d) s := by
    intro d s hd hs
    have hlt := sheet_lt hd hs
    obtain ⟨m1, m2⟩ := sheet_num (d := d) hs
    unfold fn
    rw [rd_covT _ _ _ _ _ hlt, rd_covF _ _ _ _ _ hlt, m1, m2]
    exact ⟨rfl, rfl⟩
  refine ⟨⟨covT_length _ _ _ _, fun x hx => ?_⟩, ⟨covF_length _ _ _ _, fun x hx => ?_⟩, val⟩
  · obtain ⟨s1, s2, s3⟩ := sheet_of hk hx
    rw [rd_covT _ _ _ _ _ hx]
    have := sheet_lt (h.tp.1.fn s1).2 s2
    omega
  · obtain ⟨s1, s2, s3⟩ := sheet_of hk hx
    rw [rd_covF _ _ _ _ _ hx]
    have := sheet_lt (h.fp.1.fn s1).2 ((h.volt s1).1.fn s2).2
    omega
/-- Sheets that commute with all of a voltage turn the cover. -/
theorem shift_comm {n κ : Nat} {t f : List Int} {v : List (List Int)} {by_ : List Int} (h : VN n κ t f v) (hb : PermL κ by_) :
    (∀ i, i < κ * n → fn (covT n κ t (κ * n)) (fn (shL κ by_ (κ * n)) i) = fn (shL κ by_ (κ * n)) (fn (covT n κ t (κ * n)) i)) ∧
    ((∀ i, i < κ * n → fn (covF κ f v (κ * n)) (fn (shL κ by_ (κ * n)) i) = fn (shL κ by_ (κ * n)) (fn (covF κ f v (κ * n)) i)) ↔ ∀ e : Nat, e < v.length → mulL by_ (rdL v (e : Int)) = mulL (rdL v (e : Int)) by_) := by
  have hk := h.k0
  obtain ⟨p1, p2, val⟩ := cov_perm h
  have sh : ∀ d s, d < n → s < κ → fn (shL κ by_ (κ * n)) (κ * d + s) = κ * d + fn by_ s := fun d s hd hs => by
    obtain ⟨m1, m2⟩ := sheet_num (d := d) hs
    rw [fn_shL _ _ _ _ (sheet_lt hd hs), m1, m2]
  constructor
  · intro i hi
    obtain ⟨s1, s2, s3⟩ := sheet_of hk hi
    rw [← s3, sh _ _ s1 s2, (val _ _ s1 (hb.1.fn s2).2).1, (val _ _ s1 s2).1, sh _ _ (h.tp.1.fn s1).2 s2]
  · constructor
    · intro hc e he
      have hpe := h.vp e he
      rw [mul_comm_iff hb hpe]
      -- the edge's lesser dart
      have hL : ∀ e : Nat, e < n / 2 → ∃ d, d < n ∧ lowD f d = true ∧ cntP (lowD f) d = e := by
        intro e he
        have hh := h.pr.half
        have : ∀ m, e < cntP (lowD f) m → ∃ d, d < m ∧ lowD f d = true ∧ cntP (lowD f) d = e := by
          intro m
          induction m with
          | zero => intro w; simp [cntP] at w
          | succ m ih =>
            intro w
            simp only [cntP] at w
            by_cases q : lowD f m = true
            · rw [if_pos q] at w
              by_cases z : cntP (lowD f) m = e
              · exact ⟨m, by omega, q, z⟩
              · obtain ⟨d, d1, d2⟩ := ih (by omega)
                exact ⟨d, by omega, d2⟩
            · rw [if_neg q] at w
              obtain ⟨d, d1, d2⟩ := ih (by omega)
              exact ⟨d, by omega, d2⟩
        exact this n (by omega)
      obtain ⟨d, d1, d2, d3⟩ := hL e (by rw [← h.vl]; exact he)
      have hd : d < fn f d := of_decide_eq_true d2
      have hvd : voltL f v d = rdL v (e : Int) := by
        unfold voltL; rw [if_pos hd, (h.pr.edge_of d1 d2).1, d3]
      intro s hs
      have := hc (κ * d + s) (sheet_lt d1 hs)
      rw [sh _ _ d1 hs, (val _ _ d1 (hb.1.fn hs).2).2, (val _ _ d1 hs).2, hvd, sh _ _ (h.fp.1.fn d1).2 (hpe.1.fn hs).2] at this
      omega
    · intro hc i hi
      obtain ⟨s1, s2, s3⟩ := sheet_of hk hi
      have hvp := h.volt s1
      rw [← s3, sh _ _ s1 s2, (val _ _ s1 (hb.1.fn s2).2).2, (val _ _ s1 s2).2, sh _ _ (h.fp.1.fn s1).2 (hvp.1.fn s2).2]
      congr 1
      have hel := h.pr.edge_lt s1
      have hpe := h.vp (edgeN f (i / κ)) (by rw [h.vl]; exact hel)
      have hcomm := (mul_comm_iff hb hpe).1 (hc _ (by rw [h.vl]; exact hel))
      unfold voltL
      split
      · exact hcomm _ s2
      · rw [fn_backL hpe (hb.1.fn s2).2, fn_backL hpe s2]
        have hg := hpe.perm.gl _ s2
        have hgf := hpe.perm.fg _ s2
        have e1 := hcomm _ hg
        rw [hgf] at e1
        -- by (back s) goes to by s under the voltage
        have e2 := hpe.perm.gf _ (hb.1.fn hg).2
        rw [e1] at e2
        exact e2
noncomputable def cwV (t f : List Int) (k : Int) (v : List (List Int)) (d : Int) : List Int × Bool := if dec (VOK t f k v ∧ 0 ≤ d ∧ d < (t.length : Int)) = true then (windZ t f k v d, true) else ([], false)
theorem cwV_len (t f : List Int) (k : Int) (v : List (List Int)) (d : Int) : (cwV t f k v d).1.length ≤ 12 := by
  unfold cwV
  split
  · rename_i h
    obtain ⟨hV, h0, h1⟩ := dec_iff.1 h
    obtain ⟨κ, rfl, hN⟩ := hV.vn
    obtain ⟨x, rfl⟩ := Int.eq_ofNat_of_zero_le h0
    have hw := windZ_perm hN (show x < t.length by omega)
    have := hw.1.1
    have := hN.k1
    show (windZ t f (κ : Int) v (x : Int)).length ≤ 12
    omega
  · exact Nat.zero_le _
noncomputable def csV (t f : List Int) (k : Int) (v : List (List Int)) (b : List Int) : List Int × Bool := if dec (VOK t f k v ∧ POK b ∧ (b.length : Int) = k) = true then (shL k.toNat b (k.toNat * t.length), true) else ([], false)
theorem csV_len (t f : List Int) (k : Int) (v : List (List Int)) (b : List Int) : (csV t f k v b).1.length ≤ 12 := by
  unfold csV
  split
  · rename_i h
    obtain ⟨hV, h0, h1⟩ := dec_iff.1 h
    obtain ⟨κ, rfl, hN⟩ := hV.vn
    have := hN.nk
    show (shL (κ : Int).toNat b ((κ : Int).toNat * t.length)).length ≤ 12
    rw [shL_length, Int.toNat_natCast]
    exact this
  · exact Nat.zero_le _
noncomputable def cmV (t f : List Int) (k : Int) (v : List (List Int)) : List Int × List Int × Bool := if dec (covOK t f k v) = true then (covT t.length k.toNat t (k.toNat * t.length), covF k.toNat f v (k.toNat * t.length), true) else ([], [], false)
theorem cmV_len (t f : List Int) (k : Int) (v : List (List Int)) : (cmV t f k v).1.length ≤ 12 ∧ (cmV t f k v).2.1.length ≤ 12 := by
  unfold cmV
  split
  · rename_i h
    have hC := dec_iff.1 h
    obtain ⟨κ, rfl, hN⟩ := hC.1.vn
    have := hN.nk
    show (covT t.length (κ : Int).toNat t ((κ : Int).toNat * t.length)).length ≤ 12 ∧ (covF (κ : Int).toNat f v ((κ : Int).toNat * t.length)).length ≤ 12
    rw [covT_length, covF_length, Int.toNat_natCast]
    exact ⟨this, this⟩
  · exact ⟨Nat.zero_le _, Nat.zero_le _⟩
noncomputable def ctV (t f : List Int) (k : Int) : List (List Int) × Bool := if dec (MOK t f ∧ (1 ≤ k ∧ k ≤ 6) ∧ (t.length : Int) * k ≤ 12) = true then (flatL k.toNat (f.length / 2), true) else ([], false)

end Go.Proofs.YtjebcgbmlbemcaaGreatDoor.M
