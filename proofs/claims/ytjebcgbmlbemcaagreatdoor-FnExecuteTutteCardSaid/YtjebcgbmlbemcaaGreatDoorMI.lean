import Derived.Test.YtjebcgbmlbemcaaGreatDoorMF
set_option linter.unusedVariables false
set_option linter.unusedSimpArgs false
namespace Go.Proofs.YtjebcgbmlbemcaaGreatDoor.M
open Go.RowKit Go.Proofs.YtjebcgbmlbemcaaGreatDoorW.PrintWords

/-! ### Vertices: the number of a dart's cycle -/
noncomputable def repN (n : Nat) (f : Nat → Nat) (d : Nat) : Nat := Classical.choose (least_con (EF n f) d)
theorem repN_spec (n : Nat) (f : Nat → Nat) (d : Nat) : ConE (EF n f) d (repN n f d) ∧ repN n f d ≤ d ∧ ∀ k, ConE (EF n f) d k → repN n f d ≤ k := Classical.choose_spec (least_con (EF n f) d)
theorem repN_least (n : Nat) (f : Nat → Nat) (d : Nat) : lstB (EF n f) (repN n f d) = true := by
  obtain ⟨h1, h2, h3⟩ := repN_spec n f d
  exact lstB_iff.2 (fun j hj hc => by have := h3 j (h1.trans hc); omega)
theorem repN_iff (n : Nat) (f : Nat → Nat) (d e : Nat) : repN n f d = repN n f e ↔ ConE (EF n f) d e := by
  obtain ⟨h1, h2, h3⟩ := repN_spec n f d
  obtain ⟨k1, k2, k3⟩ := repN_spec n f e
  constructor
  · intro w; rw [← w] at k1; exact h1.trans k1.symm
  · intro w
    have := h3 _ (w.trans k1)
    have := k3 _ (w.symm.trans h1)
    omega
theorem repN_self {n : Nat} {f : Nat → Nat} {r : Nat} (h : lstB (EF n f) r = true) : repN n f r = r := by
  obtain ⟨h1, h2, h3⟩ := repN_spec n f r
  rcases Nat.lt_or_eq_of_le h2 with q | q
  · exact absurd h1 (lstB_iff.1 h _ q)
  · exact q
noncomputable def vtx (n : Nat) (t : List Int) (d : Nat) : Nat := cntP (lstB (EF n (fn t))) (repN n (fn t) d)
theorem vtx_iff (n : Nat) (t : List Int) (d e : Nat) : vtx n t d = vtx n t e ↔ ConE (EF n (fn t)) d e := by
  rw [← repN_iff]
  constructor
  · intro w
    rcases Nat.lt_trichotomy (repN n (fn t) d) (repN n (fn t) e) with q | q | q
    · have := cntP_step _ (repN_least n (fn t) d) q
      unfold vtx at w; omega
    · exact q
    · have := cntP_step _ (repN_least n (fn t) e) q
      unfold vtx at w; omega
  · intro w; unfold vtx; rw [w]
theorem cntP_rise (p : Nat → Bool) {a b : Nat} (h : a ≤ b) : cntP p a ≤ cntP p b := by
  induction b with
  | zero => obtain rfl : a = 0 := by omega
            exact Nat.le_refl _
  | succ b ih =>
    by_cases e : a = b + 1
    · subst e; exact Nat.le_refl _
    · have := ih (by omega)
      simp only [cntP]; split <;> omega
theorem vtx_lt {n : Nat} (t : List Int) {d : Nat} (hd : d < n) : vtx n t d < cyc n (fn t) := by
  obtain ⟨h1, h2, h3⟩ := repN_spec n (fn t) d
  exact cntP_step _ (repN_least n (fn t) d) (show repN n (fn t) d < n by omega)
theorem vtx_turn {n : Nat} {t : List Int} {d : Nat} (hd : d < n) : vtx n t (fn t d) = vtx n t d := (vtx_iff n t _ _).2 (ConE.step (show EF n (fn t) d (fn t d) from ⟨hd, rfl⟩)).symm
theorem cycUp_at (n : Nat) (f : Nat → Nat) : ∀ (i e : Nat), e < cntP (lstB (EF n f)) i → ∃ r : Nat, rdL (cycUp n f i) (e : Int) = cycOf f r ∧ r < i ∧ lstB (EF n f) r = true ∧ cntP (lstB (EF n f)) r = e
  | 0, e, h => by simp [cntP] at h
  | i + 1, e, h => by
    have hl : (cycUp n f i).length = cntP (lstB (EF n f)) i := by unfold cycUp; rw [List.length_map, filter_cntP]
    by_cases q : lstB (EF n f) i = true
    · have hc : cntP (lstB (EF n f)) (i + 1) = cntP (lstB (EF n f)) i + 1 := by simp only [cntP]; rw [if_pos q]
      by_cases z : e < cntP (lstB (EF n f)) i
      · obtain ⟨r, d1, d2, d3, d4⟩ := cycUp_at n f i e z
        refine ⟨r, ?_, by omega, d3, d4⟩
        rw [cycUp_pos q, rdL_nat _ _ (by rw [List.length_append]; omega), List.getElem_append_left (by omega), ← rdL_nat _ _ (by omega), d1]
      · refine ⟨i, ?_, by omega, q, by omega⟩
        rw [cycUp_pos q, rdL_nat _ _ (by rw [List.length_append, hl]; simp; omega), List.getElem_append_right (by omega)]
        simp
    · have hc : cntP (lstB (EF n f)) (i + 1) = cntP (lstB (EF n f)) i := by simp only [cntP]; rw [if_neg q]; rfl
      obtain ⟨r, d1, d2, d3, d4⟩ := cycUp_at n f i e (by omega)
      exact ⟨r, by rw [cycUp_neg (by simpa using q)]; exact d1, by omega, d3, d4⟩
theorem cycL_at (n : Nat) (f : Nat → Nat) {e : Nat} (h : e < cyc n f) : ∃ r : Nat, rdL (cycL n f) (e : Int) = cycOf f r ∧ r < n ∧ lstB (EF n f) r = true ∧ cntP (lstB (EF n f)) r = e := cycUp_at n f n e h
/-- A dart lies on the cycle of its number and on no other. -/
theorem holds_iff {n : Nat} {t : List Int} (h : PermL n t) {e : Nat} (he : e < cyc n (fn t)) {d : Nat} (hd : d < n) : Holds (rdL (cycL n (fn t)) (e : Int)) (d : Int) ↔ vtx n t d = e := by
  obtain ⟨r, r1, r2, r3, r4⟩ := cycL_at n (fn t) he
  obtain ⟨p1, p2, p3, p4⟩ := per_spec h.perm r2
  have hv : vtx n t r = e := by unfold vtx; rw [repN_self r3, r4]
  rw [r1]
  constructor
  · rintro ⟨j, hj, e2⟩
    rw [cycOf_length] at hj
    rw [rd_nat _ _ (by rw [cycOf_length]; exact hj)] at e2
    have e3 : (itr (fn t) j r : Int) = (d : Int) := by rw [← e2]; simp [cycOf]
    have e4 : itr (fn t) j r = d := by omega
    rw [← hv]
    exact (vtx_iff n t _ _).2 (e4 ▸ (itr_con h.perm r2 j).symm)
  · intro w
    have hc : ConE (EF n (fn t)) r d := (vtx_iff n t _ _).1 (by rw [hv, w])
    obtain ⟨m, hm, e2⟩ := con_itr h.perm r2 p1 p3 hc
    refine ⟨m, by rw [cycOf_length]; exact hm, ?_⟩
    rw [rd_nat _ _ (by rw [cycOf_length]; exact hm)]
    simp [cycOf, e2]
noncomputable def vtxL (n : Nat) (t : List Int) : List Int := (List.range n).map (fun d => (vtx n t d : Int))
theorem vtxL_length (n : Nat) (t : List Int) : (vtxL n t).length = n := by simp [vtxL]
theorem rd_vtxL (n : Nat) (t : List Int) (d : Nat) (h : d < n) : rd (vtxL n t) (d : Int) = (vtx n t d : Int) := by
  rw [rd_nat _ _ (by rw [vtxL_length]; exact h)]; simp [vtxL]

/-! ### Darts in the order in which a search comes to them -/
def bStep (st : List Int × List Int) (d : Int) : List Int × List Int := if rd st.1 d < 0 then (st.1.set d.toNat (st.2.length : Int), st.2 ++ [d]) else st
def bRound (t f : List Int) (st : List Int × List Int) (i : Nat) : List Int × List Int := bStep (bStep st (rd t (rd st.2 (i : Int)))) (rd f (rd st.2 (i : Int)))
def bRun (t f : List Int) : Nat → Nat → List Int × List Int → List Int × List Int
  | 0, _, st => st
  | m + 1, i, st => if i < st.2.length then bRun t f m (i + 1) (bRound t f st i) else st
/-- What a search knows: its numbers and its order agree. -/
structure BInv (n : Nat) (st : List Int × List Int) : Prop where
  lo : st.1.length = n
  qo : ∀ j : Nat, j < st.2.length → ∃ a : Nat, a < n ∧ rd st.2 (j : Int) = (a : Int) ∧ rd st.1 (a : Int) = (j : Int)
  oq : ∀ d : Nat, d < n → rd st.1 (d : Int) < 0 ∨ ∃ j : Nat, j < st.2.length ∧ rd st.1 (d : Int) = (j : Int) ∧ rd st.2 (j : Int) = (d : Int)
theorem BInv.len {n : Nat} {st : List Int × List Int} (h : BInv n st) : st.2.length ≤ n := by
  by_cases w : st.2.length ≤ n
  · exact w
  · obtain ⟨i, j, hij, hj, e⟩ := pigeon n (fun i => (rd st.2 (i : Int)).toNat) (fun i hi => by
      obtain ⟨a, a1, a2, a3⟩ := h.qo i (by omega)
      show (rd st.2 (i : Int)).toNat < n
      rw [a2]; exact a1)
    obtain ⟨a, a1, a2, a3⟩ := h.qo i (by omega)
    obtain ⟨b, b1, b2, b3⟩ := h.qo j (by omega)
    have e' : (rd st.2 (i : Int)).toNat = (rd st.2 (j : Int)).toNat := e
    rw [a2, b2] at e'
    have : a = b := by simpa using e'
    subst this
    rw [a3] at b3; omega
theorem rd_snoc_lt' (x : List Int) (v : Int) (a : Nat) (h : a < x.length) : rd (x ++ [v]) (a : Int) = rd x (a : Int) := by
  rw [rd_nat _ _ (by simp; omega), rd_nat _ _ h, List.getElem_append_left h]
theorem rd_snoc_eq' (x : List Int) (v : Int) : rd (x ++ [v]) (x.length : Int) = v := by
  rw [rd_nat _ _ (by simp)]; simp
theorem BInv.step {n : Nat} {st : List Int × List Int} (h : BInv n st) {d : Nat} (hd : d < n) : BInv n (bStep st (d : Int)) ∧ st.2.length ≤ (bStep st (d : Int)).2.length ∧ (∀ j : Nat, j < st.2.length → rd (bStep st (d : Int)).2 (j : Int) = rd st.2 (j : Int)) ∧ (∀ e : Nat, e < n → 0 ≤ rd st.1 (e : Int) → 0 ≤ rd (bStep st (d : Int)).1 (e : Int)) ∧ 0 ≤ rd (bStep st (d : Int)).1 (d : Int) := by
  unfold bStep
  by_cases q : rd st.1 (d : Int) < 0
  · rw [if_pos q]
    have hl := h.lo
    refine ⟨⟨by simp [hl], fun j hj => ?_, fun e he => ?_⟩, by simp, fun j hj => rd_snoc_lt' _ _ _ hj, fun e he h0 => ?_, ?_⟩
    · simp only [List.length_append, List.length_cons, List.length_nil] at hj
      by_cases w : j = st.2.length
      · subst w
        refine ⟨d, hd, rd_snoc_eq' _ _, ?_⟩
        show rd (st.1.set d _) (d : Int) = _
        rw [rd_set_self _ _ _ (by omega)]
      · obtain ⟨a, a1, a2, a3⟩ := h.qo j (by omega)
        refine ⟨a, a1, by rw [rd_snoc_lt' _ _ _ (by omega), a2], ?_⟩
        show rd (st.1.set d _) (a : Int) = _
        rw [rd_set_ne _ _ _ _ (fun w2 => by subst w2; omega), a3]
    · show rd (st.1.set d _) (e : Int) < 0 ∨ ∃ j : Nat, j < (st.2 ++ [(d : Int)]).length ∧ rd (st.1.set d _) (e : Int) = (j : Int) ∧ _
      by_cases w : d = e
      · subst w
        rw [rd_set_self _ _ _ (by omega)]
        exact .inr ⟨st.2.length, by simp, rfl, rd_snoc_eq' _ _⟩
      · rw [rd_set_ne _ _ _ _ w]
        rcases h.oq e he with o | ⟨j, j1, j2, j3⟩
        · exact .inl o
        · exact .inr ⟨j, by simp; omega, j2, by rw [rd_snoc_lt' _ _ _ j1, j3]⟩
    · show 0 ≤ rd (st.1.set d _) (e : Int)
      by_cases w : d = e
      · subst w; rw [rd_set_self _ _ _ (by omega)]; omega
      · rw [rd_set_ne _ _ _ _ w]; exact h0
    · show 0 ≤ rd (st.1.set d _) (d : Int)
      rw [rd_set_self _ _ _ (by omega)]; omega
  · rw [if_neg q]
    exact ⟨h, Nat.le_refl _, fun _ _ => rfl, fun _ _ h0 => h0, by omega⟩
/-- The darts ahead of number i have been asked. -/
def BDone (t f : List Int) (i : Nat) (st : List Int × List Int) : Prop := ∀ j : Nat, j < i → j < st.2.length → 0 ≤ rd st.1 (rd t (rd st.2 (j : Int))) ∧ 0 ≤ rd st.1 (rd f (rd st.2 (j : Int)))
theorem BInv.round {n : Nat} {t f : List Int} (ht : Pts n t) (hf : Pts n f) {st : List Int × List Int} (h : BInv n st) {i : Nat} (hi : i < st.2.length) (hD : BDone t f i st) :
    BInv n (bRound t f st i) ∧ BDone t f (i + 1) (bRound t f st i) ∧ st.2.length ≤ (bRound t f st i).2.length ∧ (∀ j : Nat, j < st.2.length → rd (bRound t f st i).2 (j : Int) = rd st.2 (j : Int)) := by
  obtain ⟨a, a1, a2, a3⟩ := h.qo i hi
  have t1 := ht.fn a1
  have f1 := hf.fn a1
  obtain ⟨s1, s2, s3, s4, s5⟩ := h.step t1.2
  obtain ⟨u1, u2, u3, u4, u5⟩ := s1.step f1.2
  have e : bRound t f st i = bStep (bStep st (fn t a : Int)) (fn f a : Int) := by unfold bRound; rw [a2, t1.1, f1.1]
  rw [e]
  have keep : ∀ j : Nat, j < st.2.length → rd (bStep (bStep st (fn t a : Int)) (fn f a : Int)).2 (j : Int) = rd st.2 (j : Int) := fun j hj => by rw [u3 j (by omega), s3 j hj]
  refine ⟨u1, fun j hj hj2 => ?_, by omega, keep⟩
  by_cases w : j < i
  · obtain ⟨b, b1, b2, b3⟩ := h.qo j (by omega)
    have tb := ht.fn b1
    have fb := hf.fn b1
    obtain ⟨d1, d2⟩ := hD j w (by omega)
    rw [keep j (by omega), b2, tb.1, fb.1]
    rw [b2, tb.1] at d1
    rw [b2, fb.1] at d2
    exact ⟨u4 _ tb.2 (s4 _ tb.2 d1), u4 _ fb.2 (s4 _ fb.2 d2)⟩
  · obtain rfl : j = i := by omega
    rw [keep j hi, a2, t1.1, f1.1]
    exact ⟨u4 _ t1.2 s5, u5⟩
theorem bRun_spec {n : Nat} {t f : List Int} (ht : Pts n t) (hf : Pts n f) : ∀ (m i : Nat) (st : List Int × List Int), n < m + i → BInv n st → BDone t f i st → i ≤ st.2.length → 1 ≤ st.2.length →
    BInv n (bRun t f m i st) ∧ BDone t f (bRun t f m i st).2.length (bRun t f m i st) ∧ rd (bRun t f m i st).2 ((0 : Nat) : Int) = rd st.2 ((0 : Nat) : Int) ∧ 1 ≤ (bRun t f m i st).2.length := by
  intro m
  induction m with
  | zero => intro i st hm h hD hi h1; have := h.len; omega
  | succ m ih =>
    intro i st hm h hD hi h1
    unfold bRun
    by_cases q : i < st.2.length
    · rw [if_pos q]
      obtain ⟨r1, r2, r3, r4⟩ := h.round ht hf q hD
      obtain ⟨x1, x2, x3, x4⟩ := ih (i + 1) _ (by omega) r1 r2 (by omega) (by omega)
      exact ⟨x1, x2, by rw [x3, r4 0 (by omega)], x4⟩
    · rw [if_neg q]
      obtain rfl : i = st.2.length := by omega
      exact ⟨h, hD, rfl, h1⟩
def bStart (n root : Nat) : List Int × List Int := ((List.replicate n (-1)).set root 0, [(root : Int)])
theorem rd_rep (n : Nat) (v : Int) (d : Nat) (h : d < n) : rd (List.replicate n v) (d : Int) = v := by rw [rd_nat _ _ (by simp; exact h)]; simp
theorem bStart_inv {n root : Nat} (h : root < n) : BInv n (bStart n root) := by
  refine ⟨by simp [bStart], fun j hj => ?_, fun d hd => ?_⟩
  · obtain rfl : j = 0 := by simpa [bStart] using hj
    refine ⟨root, h, by rw [rd_nat _ _ (by simp [bStart])]; rfl, ?_⟩
    show rd ((List.replicate n (-1)).set root 0) (root : Int) = _
    rw [rd_set_self _ _ _ (by simp; exact h)]; rfl
  · show rd ((List.replicate n (-1)).set root 0) (d : Int) < 0 ∨ _
    by_cases w : root = d
    · subst w
      right
      refine ⟨0, by simp [bStart], ?_, by rw [rd_nat _ _ (by simp [bStart])]; rfl⟩
      show rd ((List.replicate n (-1)).set root 0) (root : Int) = _
      rw [rd_set_self _ _ _ (by simp; exact h)]; rfl
    · left
      rw [rd_set_ne _ _ _ _ w, rd_rep _ _ _ hd]; omega
def bEnd (n : Nat) (t f : List Int) (root : Nat) : List Int × List Int := bRun t f (n + 1) 0 (bStart n root)
def bnamL (n : Nat) (t f : List Int) (root : Nat) : List Int := (bEnd n t f root).1
def orderL (n : Nat) (t f : List Int) (root : Nat) : List Int := (bEnd n t f root).2
/-- Forward closed under a permutation is closed. -/
theorem fwd_closed {n : Nat} {f g : Nat → Nat} (h : PermN n f g) {P : Nat → Prop} (hP : ∀ i, i < n → P i → P (f i)) {i : Nat} (hi : i < n) (hf : P (f i)) : P i := by
  obtain ⟨p, p1, p2, p3, p4⟩ := period h hi
  have hfi : f i < n := by have := itr_lt h hi 1; simpa [itr] using this
  have all : ∀ k, P (itr f k (f i)) := by
    intro k
    induction k with
    | zero => exact hf
    | succ k ih => exact hP _ (itr_lt h hfi k) ih
  have e : itr f (p - 1) (f i) = i := by
    have e1 : itr f (p - 1) (itr f 1 i) = itr f (p - 1 + 1) i := (itr_add f i (p - 1) 1).symm
    rw [show p - 1 + 1 = p by omega, p3] at e1
    exact e1
  have := all (p - 1)
  rwa [e] at this
theorem bEnd_spec {t f : List Int} (hM : MOK t f) {root : Nat} (hr : root < t.length) : BInv t.length (bEnd t.length t f root) ∧ (∀ d : Nat, d < t.length → 0 ≤ rd (bnamL t.length t f root) (d : Int)) ∧ rd (orderL t.length t f root) ((0 : Nat) : Int) = (root : Int) := by
  have hT := hM.permT
  have hF := hM.permF
  obtain ⟨b1, b2, b3, b4⟩ := bRun_spec hT.1 hF.1 (t.length + 1) 0 (bStart t.length root) (by omega) (bStart_inv hr) (fun j hj => absurd hj (by omega)) (by omega) (by simp [bStart])
  refine ⟨b1, ?_, by show rd (bEnd t.length t f root).2 _ = _; unfold bEnd; rw [b3, rd_nat _ _ (by simp [bStart])]; rfl⟩
  have named : ∀ d : Nat, d < t.length → 0 ≤ rd (bnamL t.length t f root) (d : Int) → 0 ≤ rd (bnamL t.length t f root) (fn t d : Int) ∧ 0 ≤ rd (bnamL t.length t f root) (fn f d : Int) := by
    intro d hd h0
    rcases b1.oq d hd with o | ⟨j, j1, j2, j3⟩
    · exact absurd h0 (by unfold bnamL bEnd; omega)
    · have := b2 j j1 j1
      rw [j3, (hT.1.fn hd).1, (hF.1.fn hd).1] at this
      exact this
  have r0 : 0 ≤ rd (bnamL t.length t f root) (root : Int) := by
    obtain ⟨a, a1, a2, a3⟩ := b1.qo 0 (by omega)
    rw [b3, rd_nat _ _ (by simp [bStart])] at a2
    have : (root : Int) = (a : Int) := a2
    have : root = a := by omega
    subst this
    show 0 ≤ rd (bEnd t.length t f root).1 _
    unfold bEnd; rw [a3]; omega
  -- the classes: named or not
  intro d hd
  have inv : Inv2 t.length t f (fun x => if 0 ≤ rd (bnamL t.length t f root) (x : Int) then 1 else 0) := by
    intro i hi
    have ti : 0 ≤ rd (bnamL t.length t f root) (fn t i : Int) ↔ 0 ≤ rd (bnamL t.length t f root) (i : Int) :=
      ⟨fun w => fwd_closed hT.perm (P := fun x => 0 ≤ rd (bnamL t.length t f root) (x : Int)) (fun j hj hw => (named j hj hw).1) hi w, fun w => (named i hi w).1⟩
    have fi : 0 ≤ rd (bnamL t.length t f root) (fn f i : Int) ↔ 0 ≤ rd (bnamL t.length t f root) (i : Int) :=
      ⟨fun w => fwd_closed hF.perm (P := fun x => 0 ≤ rd (bnamL t.length t f root) (x : Int)) (fun j hj hw => (named j hj hw).2) hi w, fun w => (named i hi w).2⟩
    constructor
    · simp only [ti]
    · simp only [fi]
  have zero : ∀ x : Nat, x < t.length → Con t.length t f x 0 := by
    intro x hx
    have h0 := hM.2.2.2.2 x hx
    rw [rd_orbL _ _ _ hx] at h0
    have h1 := (low_spec (a := t) (b := f) hx).2.1
    rw [show low t.length t f x = 0 by omega] at h1
    exact h1
  have hc := ((zero d hd).trans (zero root hr).symm) _ inv
  by_cases w : 0 ≤ rd (bnamL t.length t f root) (d : Int)
  · exact w
  · simp only [if_neg w, if_pos r0] at hc
    exact absurd hc (by decide)
theorem names_perm {t f : List Int} (hM : MOK t f) {root : Nat} (hr : root < t.length) : PermL t.length (bnamL t.length t f root) ∧ (orderL t.length t f root).length = t.length ∧ orderL t.length t f root = backL (bnamL t.length t f root) := by
  obtain ⟨b1, b2, b3⟩ := bEnd_spec hM hr
  have hl : (bnamL t.length t f root).length = t.length := b1.lo
  have at_ : ∀ d : Nat, d < t.length → ∃ j : Nat, j < (orderL t.length t f root).length ∧ rd (bnamL t.length t f root) (d : Int) = (j : Int) ∧ rd (orderL t.length t f root) (j : Int) = (d : Int) := by
    intro d hd
    rcases b1.oq d hd with o | o
    · exact absurd (b2 d hd) (by unfold bnamL; omega)
    · exact o
  have hq : (orderL t.length t f root).length ≤ t.length := b1.len
  have hP : PermL t.length (bnamL t.length t f root) := by
    refine ⟨⟨hl, fun i hi => ?_⟩, fun i j hi hj e => ?_⟩
    · obtain ⟨j, j1, j2, j3⟩ := at_ i hi; omega
    · obtain ⟨a, a1, a2, a3⟩ := at_ i hi
      obtain ⟨b, c1, c2, c3⟩ := at_ j hj
      unfold fn at e
      rw [a2, c2] at e
      have : a = b := by simpa using e
      subst this
      omega
  have hlen : (orderL t.length t f root).length = t.length := by
    by_cases w : (orderL t.length t f root).length = t.length
    · exact w
    · -- the last number is somebody's
      have hb := hP.perm.gl (t.length - 1) (by omega)
      have hg := hP.perm.fg (t.length - 1) (by omega)
      generalize bck t.length (fn (bnamL t.length t f root)) (t.length - 1) = x at hb hg
      obtain ⟨j, j1, j2, j3⟩ := at_ x hb
      unfold fn at hg
      rw [j2] at hg
      simp only [Int.toNat_natCast] at hg
      omega
  refine ⟨hP, hlen, ?_⟩
  refine list_ext_rd (by rw [hlen, backL_length, hl]) (fun j hj => ?_)
  obtain ⟨a, a1, a2, a3⟩ := b1.qo j hj
  have a2' : rd (orderL t.length t f root) (j : Int) = (a : Int) := a2
  rw [a2', rd_backL _ _ (by rw [hl]; omega), hl]
  have : fn (bnamL t.length t f root) a = j := by unfold fn bnamL; rw [a3]; rfl
  have e := hP.perm.gf a a1
  rw [this] at e
  omega

end Go.Proofs.YtjebcgbmlbemcaaGreatDoor.M
