/- The law FnExactCoverConj holds for every input. -/
import Derived.Test.YtmcgkckdnelcdaaPFnExactCoverConjx10
import Derived.Test.YtmcgkckdnelcdaaQFnExactCoverConj
set_option linter.unusedVariables false
set_option linter.unusedSimpArgs false
namespace Go.Proofs.Ytmcgkckdnelcdaa.Pure
open Go.RowKit Go.Proofs.Ytmcgkckdnelcdaa.PFnExactCoverConj Go.Proofs.YtmcgkckdnelcdaaW.PrintWords Go.Proofs.YtmcgkckdnelcdaaW.PrintLast Go.Proofs.Ytmcgkckdnelcdaa.M

/-! ### laws_szIntS -/
theorem laws_szIntS_eq (l : List Int) (a : Int) (h0 : 0 ≤ a) (h1 : a ≤ 1048576) (hl : l.length ≤ 9223372036854775807) : ∃ t, laws_szIntS.f l a = some t ∧ (t < 0 ∨ (0 ≤ t ∧ t = a - l.length)) := by
  unfold laws_szIntS.f
  rw [wrap64_id (by omega) (by omega)]
  by_cases h : a - (l.length : Int) < 0
  · rw [if_pos h]; exact ⟨_, rfl, .inl (by omega)⟩
  · rw [if_neg h]; exact ⟨_, rfl, .inr ⟨by omega, rfl⟩⟩
/-! ### laws_szMap -/
theorem laws_szMap_eq (l m : List Int) (hl : l.length ≤ 9223372036854775807) (hm : m.length ≤ 9223372036854775807) : ∃ t, laws_szMap.f l m 1048576 = some t ∧ (t < 0 ∨ (0 ≤ t ∧ t ≤ 1048576 ∧ l.length ≤ 1048576 ∧ m.length ≤ 1048576)) := by
  unfold laws_szMap.f
  obtain ⟨a, a1, a2⟩ := laws_szIntS_eq l 1048576 (by omega) (by omega) hl
  rw [a1]
  simp only [Option.bind_some]
  rcases a2 with a2 | ⟨a2, a3⟩
  · rw [if_pos a2]; exact ⟨_, rfl, .inl (by omega)⟩
  · rw [if_neg (by omega)]
    obtain ⟨b, b1, b2⟩ := laws_szIntS_eq m a (by omega) (by omega) hm
    rw [b1]
    simp only [Option.bind_some]
    rcases b2 with b2 | ⟨b2, b3⟩
    · rw [if_pos b2]; exact ⟨_, rfl, .inl (by omega)⟩
    · rw [if_neg (by omega)]; exact ⟨_, rfl, .inr ⟨by omega, by omega, by omega, by omega⟩⟩
/-! ### laws_szIntSS -/
theorem laws_szIntSS_ev (l : List (List Int)) (a : Int) (h0 : 0 ≤ a) (h1 : a ≤ 1048576) (hl : l.length ≤ 9223372036854775807) (hx : ∀ x ∈ l, x.length ≤ 9223372036854775807) : ∃ t, Ev (fun k => laws_szIntSS.f k l a) t ∧ (t < 0 ∨ (0 ≤ t ∧ t ≤ 1048576 ∧ Small l)) := by
  have eL : ∀ (xs : List (List Int)) (i : Int), rd_L1 xs i = rdL xs i := fun _ _ => rfl
  have key : ∀ d i, l.length - i = d → i ≤ l.length → ∀ b : Int, 0 ≤ b → b ≤ 1048576 → l.length ≤ 1048576 → (∀ q : Nat, q < i → (rdL l (q : Int)).length ≤ 1048576) → ∃ t, Ev (fun k => laws_szIntSS.l0 k l b (i : Nat)) t ∧ (t < 0 ∨ (0 ≤ t ∧ t ≤ 1048576 ∧ Small l)) := by
    intro d
    induction d with
    | zero =>
      intro i hd hi b hb hb1 hll hq
      obtain rfl : i = l.length := by omega
      refine ⟨b, ?_, .inr ⟨hb, hb1, hll, hq⟩⟩
      refine Ev.step (fun k => by rw [laws_szIntSS.l0]) ?_
      exact Ev.neg (by omega) (Ev.const rfl)
    | succ d ih =>
      intro i hd hi b hb hb1 hll hq
      have hi' : i < l.length := by omega
      have hmem : rdL l (i : Int) ∈ l := by rw [rdL_nat l i hi']; exact List.getElem_mem hi'
      obtain ⟨c, c1, c2⟩ := laws_szIntS_eq (rdL l (i : Int)) b hb hb1 (hx _ hmem)
      rcases c2 with c2 | ⟨c2, c3⟩
      · refine ⟨-1, ?_, .inl (by omega)⟩
        refine Ev.step (fun k => by rw [laws_szIntSS.l0]) ?_
        refine Ev.pos (by omega) (Ev.pos (by omega) (Ev.bindc (by rw [eL]; exact c1) ?_))
        exact Ev.pos c2 (Ev.const rfl)
      · obtain ⟨t, t1, t2⟩ := ih (i + 1) (by omega) (by omega) c c2 (by omega) hll (fun q hqi => by
          by_cases e : q = i
          · subst e; omega
          · exact hq q (by omega))
        refine ⟨t, ?_, t2⟩
        refine Ev.step (fun k => by rw [laws_szIntSS.l0]) ?_
        refine Ev.pos (by omega) (Ev.pos (by omega) (Ev.bindc (by rw [eL]; exact c1) ?_))
        refine Ev.neg (by omega) ?_
        rw [wrap64_id (by omega) (by omega)]
        exact t1
  unfold laws_szIntSS.f
  rw [wrap64_id (by omega) (by omega)]
  by_cases h : a - (l.length : Int) < 0
  · exact ⟨-1, Ev.pos h (Ev.const rfl), .inl (by omega)⟩
  · obtain ⟨t, t1, t2⟩ := key l.length 0 (by omega) (by omega) (a - l.length) (by omega) (by omega) (by omega) (fun q hq => by omega)
    exact ⟨t, Ev.neg h t1, t2⟩
/-! ### laws_toIntS -/
theorem laws_toIntS_ev (l : List Int) (hl : l.length ≤ 1048576) : Ev (fun k => laws_toIntS.f k l) l := by
  have key : ∀ d i, l.length - i = d → i ≤ l.length → ∀ x : List Int, x.length = l.length → (∀ q : Nat, q < i → rd x (q : Int) = rd l (q : Int)) → Ev (fun k => laws_toIntS.l0 k l x (i : Nat)) l := by
    intro d
    induction d with
    | zero =>
      intro i hd hi x hx hq
      refine Ev.step (fun k => by rw [laws_toIntS.l0]) ?_
      refine Ev.neg (by omega) (Ev.const ?_)
      congr 1
      exact list_ext_rd hx (fun q hq' => hq q (by omega))
    | succ d ih =>
      intro i hd hi x hx hq
      refine Ev.step (fun k => by rw [laws_toIntS.l0]) ?_
      rw [wrap64_id (x := (i : Int) + 1) (by omega) (by omega)]
      simp only [toNat_nat]
      refine Ev.pos (by omega) (Ev.pos (by omega) (Ev.pos (by omega) ?_))
      refine ih (i + 1) (by omega) (by omega) _ (by simp [hx]) (fun q hqi => ?_)
      by_cases e : i = q
      · subst e; exact rd_set_self _ _ _ (by omega)
      · rw [rd_set_ne _ _ _ _ e]; exact hq q (by omega)
  unfold laws_toIntS.f
  refine Ev.pos (by omega) (Ev.pos (by omega) ?_)
  exact key l.length 0 (by omega) (by omega) _ (by simp) (fun q hq => by omega)
/-! ### laws_toMap -/
theorem laws_toMap_ev (l m : List Int) (hl : l.length ≤ 1048576) (hm : m.length ≤ 1048576) : Ev (fun k => laws_toMap.f k l m) (l, m) := by
  unfold laws_toMap.f
  exact Ev.bind (laws_toIntS_ev l hl) (Ev.bind (laws_toIntS_ev m hm) (Ev.const rfl))
/-! ### laws_toIntSS -/
theorem laws_toIntSS_ev (l : List (List Int)) (h : Small l) : Ev (fun k => laws_toIntSS.f k l) l := by
  have eL : ∀ (xs : List (List Int)) (i : Int), rd_L1 xs i = rdL xs i := fun _ _ => rfl
  obtain ⟨hl, hs⟩ := h
  have key : ∀ d i, l.length - i = d → i ≤ l.length → ∀ x : List (List Int), x.length = l.length → (∀ q : Nat, q < i → rdL x (q : Int) = rdL l (q : Int)) → Ev (fun k => laws_toIntSS.l0 k l x (i : Nat)) l := by
    intro d
    induction d with
    | zero =>
      intro i hd hi x hx hq
      refine Ev.step (fun k => by rw [laws_toIntSS.l0]) ?_
      refine Ev.neg (by omega) (Ev.const ?_)
      congr 1
      exact listL_ext hx (fun q hq' => hq q (by omega))
    | succ d ih =>
      intro i hd hi x hx hq
      refine Ev.step (fun k => by rw [laws_toIntSS.l0]) ?_
      rw [wrap64_id (x := (i : Int) + 1) (by omega) (by omega)]
      simp only [toNat_nat, eL]
      refine Ev.pos (by omega) (Ev.pos (by omega) (Ev.bind (laws_toIntS_ev _ (hs i (by omega))) (Ev.pos (by omega) ?_)))
      refine ih (i + 1) (by omega) (by omega) _ (by simp [hx]) (fun q hqi => ?_)
      by_cases e : i = q
      · subst e; exact rdL_set_self _ _ _ (by omega)
      · rw [rdL_set_ne _ _ _ _ e]; exact hq q (by omega)
  unfold laws_toIntSS.f
  refine Ev.pos (by omega) (Ev.pos (by omega) ?_)
  exact key l.length 0 (by omega) (by omega) _ (by simp) (fun q hq => by omega)
/-! ### laws_eqIntS -/
theorem laws_eqIntS_ev (l m : List Int) (hl : l.length ≤ 4611686018427387904) : Ev (fun k => laws_eqIntS.f k l m) (decide (l = m)) := by
  unfold laws_eqIntS.f
  refine Ev.ite (fun h => ?_) (fun h => Ev.const ?_)
  · have h' : l.length = m.length := by omega
    have key : ∀ d i, l.length - i = d → i ≤ l.length → (∀ q : Nat, q < i → rd l (q : Int) = rd m (q : Int)) → Ev (fun k => laws_eqIntS.l0 k l m (i : Nat)) (decide (l = m)) := by
      intro d
      induction d with
      | zero =>
        intro i hd hi hq
        refine Ev.step (fun k => by rw [laws_eqIntS.l0]) (Ev.neg (by omega) (Ev.const ?_))
        rw [decide_eq_true (list_ext_rd h' (fun q hq' => hq q (by omega)))]
      | succ d ih =>
        intro i hd hi hq
        refine Ev.step (fun k => by rw [laws_eqIntS.l0]) (Ev.pos (by omega) (Ev.pos (by omega) (Ev.pos (by omega) (Ev.ite (fun e => ?_) (fun e => Ev.const ?_)))))
        · rw [wrap64_id (by omega) (by omega)]
          exact ih (i + 1) (by omega) (by omega) (fun q hqi => by
            by_cases eq : q = i
            · subst eq; exact e
            · exact hq q (by omega))
        · rw [decide_eq_false]
          intro w; subst w; exact e rfl
    exact key l.length 0 (by omega) (by omega) (fun q hq => by omega)
  · rw [decide_eq_false]
    intro w; subst w; exact h rfl
/-! ### laws_eqMap -/
theorem laws_eqMap_same (l m : List Int) (hl : l.length ≤ 1048576) (hm : m.length ≤ 1048576) : Ev (fun k => laws_eqMap.f k l m l m) true := by
  have h1 := laws_eqIntS_ev l l (by omega)
  have h2 := laws_eqIntS_ev m m (by omega)
  rw [decide_eq_true rfl] at h1 h2
  unfold laws_eqMap.f
  exact Ev.bind h1 (Ev.pos rfl (Ev.bind h2 (Ev.pos rfl (Ev.const rfl))))
/-! ### laws_eqIntSS -/
theorem laws_eqIntSS_same (l : List (List Int)) (h : Small l) : Ev (fun k => laws_eqIntSS.f k l l) true := by
  have eL : ∀ (xs : List (List Int)) (i : Int), rd_L1 xs i = rdL xs i := fun _ _ => rfl
  obtain ⟨hl, hs⟩ := h
  have key : ∀ d i, l.length - i = d → i ≤ l.length → Ev (fun k => laws_eqIntSS.l0 k l l (i : Nat)) true := by
    intro d
    induction d with
    | zero =>
      intro i hd hi
      refine Ev.step (fun k => by rw [laws_eqIntSS.l0]) ?_
      exact Ev.neg (by omega) (Ev.const rfl)
    | succ d ih =>
      intro i hd hi
      have h1 := laws_eqIntS_ev (rdL l (i : Int)) (rdL l (i : Int)) (by have := hs i (by omega); omega)
      rw [decide_eq_true rfl] at h1
      refine Ev.step (fun k => by rw [laws_eqIntSS.l0]) ?_
      rw [wrap64_id (x := (i : Int) + 1) (by omega) (by omega)]
      simp only [eL]
      refine Ev.pos (by omega) (Ev.pos (by omega) (Ev.pos (by omega) (Ev.bind h1 (Ev.pos rfl ?_))))
      exact ih (i + 1) (by omega) (by omega)
  unfold laws_eqIntSS.f
  exact Ev.pos rfl (key l.length 0 (by omega) (by omega))
/-! ### laws_markIntS -/
theorem laws_markIntS_ev (l : List Int) (a : Int) (h0 : 0 ≤ a) (hl : a + l.length ≤ 4611686018427387904) : Ev (fun k => laws_markIntS.f k l a) (a + (l.length : Int), marks a l.length) := by
  have key : ∀ d i, l.length - i = d → i ≤ l.length → ∀ m : List Int, m.length = l.length → (∀ q : Nat, q < i → m[q]? = some (a + (q : Int))) → Ev (fun k => laws_markIntS.l0 k m (a + (i : Int)) (i : Nat)) (a + (l.length : Int), marks a l.length) := by
    intro d
    induction d with
    | zero =>
      intro i hd hi m hm hq
      obtain rfl : i = l.length := by omega
      refine Ev.step (fun k => by rw [laws_markIntS.l0]) (Ev.neg (by omega) (Ev.const ?_))
      congr 2
      refine list_ext_rd (by rw [marks_length, hm]) (fun q hq' => ?_)
      rw [rd_marks a _ q (by omega), rd_get? _ _ _ (hq q (by omega))]
    | succ d ih =>
      intro i hd hi m hm hq
      refine Ev.step (fun k => by rw [laws_markIntS.l0]) (Ev.pos (by omega) (Ev.pos (by omega) ?_))
      rw [wrap64_id (by omega) (by omega), wrap64_id (by omega) (by omega)]
      have := ih (i + 1) (by omega) (by omega) (m.set i (a + (i : Int))) (by simp [hm]) (fun q hqi => by
        by_cases eq : q = i
        · subst eq; rw [List.getElem?_set_self (by omega)]
        · rw [List.getElem?_set_ne (by omega)]; exact hq q (by omega))
      rw [show a + ((i + 1 : Nat) : Int) = a + (i : Int) + 1 by omega] at this
      exact this
  have := key l.length 0 (by omega) (by omega) l rfl (fun q hq => by omega)
  unfold laws_markIntS.f
  rw [show a + ((0 : Nat) : Int) = a by omega] at this
  exact this
/-! ### laws_markMap -/
theorem laws_markMap_ev (l m : List Int) (a : Int) (h0 : 0 ≤ a) (h1 : a ≤ 1048576) (hl : l.length ≤ 1048576) (hm : m.length ≤ 1048576) : Ev (fun k => laws_markMap.f k l m a) (a + (l.length : Int) + (m.length : Int), marks a l.length, marks (a + (l.length : Int)) m.length) := by
  unfold laws_markMap.f
  exact Ev.bind (laws_markIntS_ev l a h0 (by omega)) (Ev.bind (laws_markIntS_ev m _ (by omega) (by omega)) (Ev.const rfl))
/-! ### laws_markIntSS -/
-- pack for the contract with contents (wip/given/by-hand/laws_markIntSS.full.txt); take it in place of laws_markIntSS.lean.in where that contract is laid
theorem laws_markIntSS_evc (l : List (List Int)) : ∀ a : Int, 0 ≤ a → a + (totL l : Int) ≤ 2199023255552 → Ev (fun k => laws_markIntSS.f k l a) (a + (totL l : Int), marksSS a l) := by
  induction l with
  | nil => intro a h0 h1; refine Ev.const ?_; simp [totL, marksSS, laws_markIntSS.go]
  | cons x l ih =>
    intro a h0 h1
    have e : (totL (x :: l) : Int) = (x.length : Int) + (totL l : Int) := by simp [totL]
    rw [e] at h1 ⊢
    refine Ev.bind (laws_markIntS_ev x a h0 (by omega)) ?_
    refine Ev.bind (ih (a + (x.length : Int)) (by omega) (by omega)) (Ev.const ?_)
    rw [show a + (x.length : Int) + (totL l : Int) = a + ((x.length : Int) + (totL l : Int)) by omega]
    rfl
/-! ### laws_heldIntS -/
theorem laws_heldIntS_ev (n : Nat) (a : Int) (h0 : 0 ≤ a) (hl : a + n ≤ 4611686018427387904) : Ev (fun k => laws_heldIntS.f k (marks a n) a) (a + (n : Int)) := by
  have key : ∀ d i, n - i = d → i ≤ n → Ev (fun k => laws_heldIntS.l0 k (marks a n) (a + (i : Int)) (i : Nat)) (a + (n : Int)) := by
    intro d
    induction d with
    | zero =>
      intro i hd hi
      obtain rfl : i = n := by omega
      exact Ev.step (fun k => by rw [laws_heldIntS.l0]) (Ev.neg (by rw [marks_length]; omega) (Ev.const rfl))
    | succ d ih =>
      intro i hd hi
      refine Ev.step (fun k => by rw [laws_heldIntS.l0]) (Ev.pos (by rw [marks_length]; omega) (Ev.pos (by omega) (Ev.pos (rd_marks a n i (by omega)) ?_)))
      rw [wrap64_id (by omega) (by omega), wrap64_id (by omega) (by omega)]
      have := ih (i + 1) (by omega) (by omega)
      rw [show a + ((i + 1 : Nat) : Int) = a + (i : Int) + 1 by omega] at this
      exact this
  have := key n 0 (by omega) (by omega)
  unfold laws_heldIntS.f
  rw [show a + ((0 : Nat) : Int) = a by omega] at this
  exact this
/-! ### laws_heldIntSS -/
theorem laws_heldIntSS_ev (l : List (List Int)) (a : Int) (h0 : 0 ≤ a) (h1 : a + (totL l : Int) ≤ 2199023255552) (hl : l.length ≤ 1048576) : Ev (fun k => laws_heldIntSS.f k (marksSS a l) a) (a + (totL l : Int)) := by
  have eL : ∀ (xs : List (List Int)) (i : Int), rd_L1 xs i = rdL xs i := fun _ _ => rfl
  have lm := marksSS_length l a
  have key : ∀ e i, l.length - i = e → i ≤ l.length → Ev (fun k => laws_heldIntSS.l0 k (marksSS a l) (a + (totL (l.take i) : Int)) (i : Nat)) (a + (totL l : Int)) := by
    intro e
    induction e with
    | zero =>
      intro i he hi
      obtain rfl : i = l.length := by omega
      refine Ev.step (fun k => by rw [laws_heldIntSS.l0]) ?_
      rw [List.take_length]
      exact Ev.neg (by omega) (Ev.const rfl)
    | succ e ih =>
      intro i he hi
      have hi' : i < l.length := by omega
      have t1 := totL_take l i hi'
      have t2 := totL_le l (i + 1)
      refine Ev.step (fun k => by rw [laws_heldIntSS.l0]) ?_
      rw [wrap64_id (x := (i : Int) + 1) (by omega) (by omega)]
      simp only [eL]
      rw [marksSS_rd l a i hi']
      refine Ev.pos (by omega) (Ev.pos (by omega) (Ev.bind (laws_heldIntS_ev _ _ (by omega) (by omega)) (Ev.neg (by omega) ?_)))
      have := ih (i + 1) (by omega) (by omega)
      rw [t1] at this
      rw [show a + (totL (l.take i) : Int) + ((rdL l (i : Int)).length : Int) = a + ((totL (l.take i) + (rdL l (i : Int)).length : Nat) : Int) by omega]
      exact this
  unfold laws_heldIntSS.f
  have := key l.length 0 (by omega) (by omega)
  rw [show a + (totL (l.take 0) : Int) = a by simp [totL]] at this
  exact this
/-! ### spec_l6In -/
theorem spec_l6In_eq (a b c : Int) : spec_l6In.f a b c = some (decide (b ≤ a ∧ a ≤ c)) := by
  unfold spec_l6In.f
  by_cases h : a ≥ b
  · rw [if_pos h]
    congr 1
    rw [decide_eq_decide]
    omega
  · rw [if_neg h, decide_eq_false (by omega)]
/-! ### spec_PermValid -/
theorem spec_PermValid_ev (p : List Int) (hl : p.length ≤ 1048576) : Ev (fun k => spec_PermValid.f k p) (dec (POK p)) := by
  have key : ∀ d i, p.length - i = d → i ≤ p.length → (∀ a, a < i → 0 ≤ rd p (a : Int) ∧ rd p (a : Int) < p.length) → (∀ a b, a < i → b < a → rd p (b : Int) ≠ rd p (a : Int)) → Ev (fun k => spec_PermValid.l0 k p (i : Nat)) (dec (POK p)) := by
    intro d
    induction d with
    | zero =>
      intro i hd hi h1 h2
      obtain rfl : i = p.length := by omega
      have hp : PermL p.length p := ⟨⟨rfl, h1⟩, fun i j hi hj e => by
        have e1 := h1 i hi
        have e2 := h1 j hj
        unfold fn at e
        rcases Nat.lt_trichotomy i j with q | q | q
        · exact absurd (by omega) (h2 j i hj q)
        · exact q
        · exact absurd (by omega) (h2 i j hi q)⟩
      refine Ev.step (fun k => by rw [spec_PermValid.l0]) ?_
      refine Ev.neg (by omega) (Ev.bindc (spec_l6In_eq _ _ _) (Ev.const ?_))
      congr 1
      exact dec_of ⟨fun q => ⟨by omega, hp⟩, fun q => by have := q.1; omega⟩
    | succ d ih =>
      intro i hd hi h1 h2
      have hi' : i < p.length := by omega
      have inner : ∀ e j, i - j = e → j ≤ i → (0 ≤ rd p (i : Int) ∧ rd p (i : Int) < p.length) → (∀ b, b < j → rd p (b : Int) ≠ rd p (i : Int)) → Ev (fun k => spec_PermValid.l1 k p (i : Nat) (j : Nat)) (dec (POK p)) := by
        intro e
        induction e with
        | zero =>
          intro j he hj hr hb
          obtain rfl : j = i := by omega
          refine Ev.step (fun k => by rw [spec_PermValid.l1]) ?_
          refine Ev.neg (by omega) ?_
          rw [wrap64_id (x := (j : Int) + 1) (by omega) (by omega)]
          refine ih (j + 1) (by omega) (by omega) (fun a ha => ?_) (fun a b ha hba => ?_)
          · by_cases q : a = j
            · subst q; exact hr
            · exact h1 a (by omega)
          · by_cases q : a = j
            · subst q; exact hb b hba
            · exact h2 a b (by omega) hba
        | succ e ihe =>
          intro j he hj hr hb
          refine Ev.step (fun k => by rw [spec_PermValid.l1]) ?_
          rw [wrap64_id (x := (j : Int) + 1) (by omega) (by omega)]
          refine Ev.pos (by omega) (Ev.pos (by omega) (Ev.pos (by omega) (Ev.pos (by omega) (Ev.pos (by omega) ?_))))
          refine Ev.ite (fun q => ?_) (fun q => ?_)
          · rw [dec_f]
            · exact Ev.const rfl
            · intro w
              have := w.2.2 j i (by omega) hi' (by unfold fn; rw [q])
              omega
          · refine ihe (j + 1) (by omega) (by omega) hr (fun b hbj => ?_)
            by_cases z : b = j
            · subst z; exact q
            · exact hb b (by omega)
      refine Ev.step (fun k => by rw [spec_PermValid.l0]) ?_
      rw [wrap64_id (x := (p.length : Int) - 1) (by omega) (by omega)]
      refine Ev.pos (by omega) (Ev.pos (by omega) (Ev.bindc (spec_l6In_eq _ _ _) ?_))
      refine Ev.ite (fun q => ?_) (fun q => ?_)
      · have q' := of_decide_eq_true q
        exact inner i 0 (by omega) (by omega) ⟨by omega, by omega⟩ (fun b hb => by omega)
      · rw [dec_f]
        · exact Ev.const rfl
        · intro w
          have := w.2.1.2 i hi'
          exact q (decide_eq_true ⟨by omega, by omega⟩)
  unfold spec_PermValid.f
  exact key p.length 0 (by omega) (by omega) (fun a ha => by omega) (fun a b ha => by omega)
/-! ### spec_l1Both -/
theorem spec_l1Both_ev (a b : List Int) (ha : a.length ≤ 1048576) (hb : b.length ≤ 1048576) : Ev (fun k => spec_l1Both.f k a b) (dec (POK a ∧ POK b ∧ a.length = b.length)) := by
  unfold spec_l1Both.f
  refine Ev.bind (spec_PermValid_ev a ha) ?_
  refine Ev.ite (fun h1 => ?_) (fun h1 => ?_)
  · refine Ev.bind (spec_PermValid_ev b hb) ?_
    refine Ev.ite (fun h2 => Ev.const ?_) (fun h2 => ?_)
    · congr 1
      have a1 := dec_iff.1 h1
      have a2 := dec_iff.1 h2
      by_cases e : a.length = b.length
      · rw [dec_t ⟨a1, a2, e⟩, e]; exact beq_self_eq_true _
      · rw [dec_f (fun w => e w.2.2)]; exact beq_eq_false_iff_ne.2 (by omega)
    · rw [dec_f (fun w => h2 (dec_t w.2.1))]; exact Ev.const rfl
  · rw [dec_f (fun w => h1 (dec_t w.1))]; exact Ev.const rfl
/-! ### spec_l1Same -/
theorem spec_l1Same_ev (n : Nat) (hn : n ≤ 4194304) : Ev (fun k => spec_l1Same.f k (n : Nat)) (idL n) := by
  have key : ∀ d i, n - i = d → i ≤ n → Ev (fun k => spec_l1Same.l0 k (n : Nat) (idL i) (i : Nat)) (idL n) := by
    intro d
    induction d with
    | zero =>
      intro i hd hi
      obtain rfl : i = n := by omega
      refine Ev.step (fun k => by rw [spec_l1Same.l0]) ?_
      exact Ev.neg (by omega) (Ev.const rfl)
    | succ d ih =>
      intro i hd hi
      refine Ev.step (fun k => by rw [spec_l1Same.l0]) (Ev.pos (by omega) (Ev.pos (by rw [idL_length]; omega) ?_))
      rw [wrap64_id (by omega) (by omega)]
      have := ih (i + 1) (by omega) (by omega)
      rw [show idL (i + 1) = idL i ++ [(i : Int)] by simp [idL, List.range_succ]] at this
      exact this
  unfold spec_l1Same.f
  exact key n 0 (by omega) (by omega)
/-! ### spec_l1Orbits -/
theorem spec_l1Orbits_step {n : Nat} {a b o : List Int} (ha : Pts n a) (hb : Pts n b) (h : OrbPre n a b o) {i : Nat} (hi : i < n) (x : Int)
    (hx : x = mn (rd o (i : Int)) (mn (rd o (fn a i : Int)) (rd o (fn b i : Int)))) :
    OrbPre n a b (((o.set i x).set (fn a i) x).set (fn b i) x) ∧
    (∀ q, q < n → rd (((o.set i x).set (fn a i) x).set (fn b i) x) (q : Int) ≤ rd o (q : Int)) ∧
    (∀ q, (q = i ∨ q = fn a i ∨ q = fn b i) → rd (((o.set i x).set (fn a i) x).set (fn b i) x) (q : Int) = x) := by
  have fa := (ha.fn hi).2
  have fb := (hb.fn hi).2
  have hl := h.1
  have gi := h.2 i hi
  have ga := h.2 _ fa
  have gb := h.2 _ fb
  have hx1 : x ≤ rd o (i : Int) ∧ x ≤ rd o (fn a i : Int) ∧ x ≤ rd o (fn b i : Int) := by rw [hx]; unfold mn; omega
  have hcx : Con n a b i x.toNat := by
    have : x = rd o (i : Int) ∨ x = rd o (fn a i : Int) ∨ x = rd o (fn b i : Int) := by rw [hx]; unfold mn; omega
    rcases this with e | e | e
    · rw [e]; exact gi.2.2
    · rw [e]; exact (Con.fa hi).trans ga.2.2
    · rw [e]; exact (Con.fb hi).trans gb.2.2
  have h0 : 0 ≤ x := by rw [hx]; unfold mn; omega
  have p1 := h.put hi x h0 (by omega) hcx
  have p2 := p1.put fa x h0 (by omega) ((Con.fa hi).symm.trans hcx)
  have p3 := p2.put fb x h0 (by omega) ((Con.fb hi).symm.trans hcx)
  have hval : ∀ q, q < n → rd (((o.set i x).set (fn a i) x).set (fn b i) x) (q : Int) = if q = i ∨ q = fn a i ∨ q = fn b i then x else rd o (q : Int) := by
    intro q hq
    by_cases e1 : fn b i = q
    · subst e1; rw [rd_set_self _ _ _ (by simp; omega), if_pos (.inr (.inr rfl))]
    · rw [rd_set_ne _ _ _ _ e1]
      by_cases e2 : fn a i = q
      · subst e2; rw [rd_set_self _ _ _ (by simp; omega), if_pos (.inr (.inl rfl))]
      · rw [rd_set_ne _ _ _ _ e2]
        by_cases e3 : i = q
        · subst e3; rw [rd_set_self _ _ _ (by omega), if_pos (.inl rfl)]
        · rw [rd_set_ne _ _ _ _ e3, if_neg (by omega)]
  refine ⟨p3, fun q hq => ?_, fun q hq => ?_⟩
  · rw [hval q hq]
    split
    · rename_i e
      rcases e with rfl | rfl | rfl <;> omega
    · exact Int.le_refl _
  · have hqn : q < n := by rcases hq with rfl | rfl | rfl <;> omega
    rw [hval q hqn, if_pos hq]
theorem spec_l1Orbits_ev (n : Nat) (hn : n ≤ 4194304) (a b : List Int) (ha : Pts n a) (hb : Pts n b) : Ev (fun k => spec_l1Orbits.f k a b) (orbL a b) := by
  have la := ha.1
  have lb := hb.1
  have inner : ∀ d i, n - i = d → i ≤ n → ∀ (o0 o : List Int) (t : Nat), OrbPre n a b o0 → OrbPre n a b o → (∀ q, q < n → rd o (q : Int) ≤ rd o0 (q : Int)) →
      (∀ q, q < i → (rd o (fn a q : Int) ≤ rd o0 (q : Int) ∧ rd o (q : Int) ≤ rd o0 (fn a q : Int)) ∧ (rd o (fn b q : Int) ≤ rd o0 (q : Int) ∧ rd o (q : Int) ≤ rd o0 (fn b q : Int))) →
      (∀ o', OrbPre n a b o' → Rounded n a b o0 o' → Ev (fun k => spec_l1Orbits.l0 k a b o' ((t : Int) + 1)) (orbL a b)) → t ≤ 4194304 →
      Ev (fun k => spec_l1Orbits.l1 k a b o (t : Nat) (i : Nat)) (orbL a b) := by
    intro d
    induction d with
    | zero =>
      intro i hd hi o0 o t h0 h hle hq hout ht
      obtain rfl : i = n := by omega
      refine Ev.step (fun k => by rw [spec_l1Orbits.l1]) ?_
      refine Ev.neg (by omega) ?_
      rw [wrap64_id (by omega) (by omega)]
      exact hout o h ⟨hle, hq⟩
    | succ d ih =>
      intro i hd hi o0 o t h0 h hle hq hout ht
      have hi' : i < n := by omega
      have ea := ha.fn hi'
      have eb := hb.fn hi'
      have lo := h.1
      refine Ev.step (fun k => by rw [spec_l1Orbits.l1]) ?_
      rw [ea.1, eb.1, wrap64_id (x := (i : Int) + 1) (by omega) (by omega)]
      simp only [toNat_nat]
      refine Ev.pos (by omega) (Ev.pos (by omega) (Ev.pos (by omega) (Ev.pos (by omega) (Ev.pos (by omega) (Ev.pos (by omega) (Ev.pos (by omega) (Ev.pos (by omega) ?_)))))))
      obtain ⟨s1, s2, s3⟩ := spec_l1Orbits_step ha hb h hi' _ rfl
      have hx : ∀ q, (q = i ∨ q = fn a i ∨ q = fn b i) → mn (rd o (i : Int)) (mn (rd o (fn a i : Int)) (rd o (fn b i : Int))) ≤ rd o (q : Int) := by
        intro q hq; rcases hq with rfl | rfl | rfl <;> (unfold mn; omega)
      refine ih (i + 1) (by omega) (by omega) o0 _ t h0 s1 (fun q hq => Int.le_trans (s2 q hq) (hle q hq)) (fun q hqi => ?_) hout ht
      by_cases e : q = i
      · subst e
        have l1 := hle q hi'
        have l2 := hle _ ea.2
        have l3 := hle _ eb.2
        have x1 := hx q (.inl rfl)
        have x2 := hx _ (.inr (.inl rfl))
        have x3 := hx _ (.inr (.inr rfl))
        rw [s3 q (.inl rfl), s3 _ (.inr (.inl rfl)), s3 _ (.inr (.inr rfl))]
        omega
      · obtain ⟨⟨q1, q2⟩, q3, q4⟩ := hq q (by omega)
        have m1 := s2 _ (ha.fn (show q < n by omega)).2
        have m2 := s2 _ (hb.fn (show q < n by omega)).2
        have m3 := s2 q (by omega)
        omega
  have outer : ∀ d t, n - t = d → t ≤ n → ∀ o : List Int, OrbPre n a b o → (t ≤ cntP (okB n a b o) n) → Ev (fun k => spec_l1Orbits.l0 k a b o (t : Nat)) (orbL a b) := by
    intro d
    induction d with
    | zero =>
      intro t hd ht o h hc
      obtain rfl : t = n := by omega
      refine Ev.step (fun k => by rw [spec_l1Orbits.l0]) ?_
      refine Ev.neg (by omega) (Ev.const ?_)
      rw [settled ha hb h (by have := cntP_le (okB t a b o) t; omega)]
    | succ d ih =>
      intro t hd ht o h hc
      refine Ev.step (fun k => by rw [spec_l1Orbits.l0]) ?_
      refine Ev.pos (by omega) ?_
      refine inner n 0 (by omega) (by omega) o o t h h (fun q _ => Int.le_refl _) (fun q hq => by omega) (fun o' h' hr => ?_) (by omega)
      have := ih (t + 1) (by omega) (by omega) o' h' ?_
      · exact this
      · rcases round_more ha hb h h' hr with e | e
        · have hm : cntP (okB n a b o) n ≤ cntP (okB n a b o') n := by
            refine cntP_mono _ _ n (fun i hi hk => ?_)
            unfold okB at *
            have h1 := of_decide_eq_true hk
            have h2 := hr.1 i hi
            have h3 := h'.low_le hi
            exact decide_eq_true (by omega)
          omega
        · omega
  unfold spec_l1Orbits.f
  rw [la]
  refine Ev.bind (spec_l1Same_ev n hn) ?_
  exact outer n 0 (by omega) (by omega) _ (OrbPre.start n a b) (by omega)
/-! ### spec_MapValid -/
theorem spec_MapValid_ev (t f : List Int) (ht : t.length ≤ 1048576) (hf : f.length ≤ 1048576) : Ev (fun k => spec_MapValid.f k t f) (dec (MOK t f)) := by
  unfold spec_MapValid.f
  refine Ev.bind (spec_l1Both_ev t f ht hf) ?_
  refine Ev.ite (fun h1 => ?_) (fun h1 => ?_)
  · obtain ⟨a1, a2, hl⟩ := dec_iff.1 h1
    have ft := a2.2.1
    have tt := a1.2.1
    rw [hl] at tt
    have hz := a1.1
    have ho := (orbL_isOrb tt ft)
    have hol := ho.1.1
    have last : (∀ q, q < f.length → fn f q ≠ q ∧ fn f (fn f q) = q) → ∀ d i, f.length - i = d → i ≤ f.length → (∀ q, q < i → rd (orbL t f) (q : Int) = 0) → Ev (fun k => spec_MapValid.l1 k (orbL t f) (i : Nat)) (dec (MOK t f)) := by
      intro hq d
      induction d with
      | zero =>
        intro i hd hi h0
        refine Ev.step (fun k => by rw [spec_MapValid.l1]) ?_
        refine Ev.neg (by omega) ?_
        rw [dec_t]
        · exact Ev.const rfl
        · exact ⟨a1, a2, hl, hq, fun i hi => h0 i (by omega)⟩
      | succ d ih =>
        intro i hd hi h0
        refine Ev.step (fun k => by rw [spec_MapValid.l1]) ?_
        rw [wrap64_id (x := (i : Int) + 1) (by omega) (by omega)]
        refine Ev.pos (by omega) (Ev.pos (by omega) (Ev.ite (fun q => ?_) (fun q => ?_)))
        · refine ih (i + 1) (by omega) (by omega) (fun z hz => ?_)
          by_cases e : z = i
          · subst e; exact q
          · exact h0 z (by omega)
        · rw [dec_f (fun w => q (w.2.2.2.2 i (by omega)))]; exact Ev.const rfl
    have key : ∀ d i, f.length - i = d → i ≤ f.length → (∀ q, q < i → fn f q ≠ q ∧ fn f (fn f q) = q) → Ev (fun k => spec_MapValid.l0 k (i : Nat) t f) (dec (MOK t f)) := by
      intro d
      induction d with
      | zero =>
        intro i hd hi hq
        obtain rfl : i = f.length := by omega
        refine Ev.step (fun k => by rw [spec_MapValid.l0]) ?_
        refine Ev.neg (by omega) ?_
        refine Ev.bind (spec_l1Orbits_ev f.length (by omega) t f tt ft) ?_
        exact last hq f.length 0 (by omega) (by omega) (fun q hq => by omega)
      | succ d ih =>
        intro i hd hi hq
        have hi' : i < f.length := by omega
        have e1 := ft.fn hi'
        have e2 := ft.fn e1.2
        refine Ev.step (fun k => by rw [spec_MapValid.l0]) ?_
        rw [e1.1, e2.1, wrap64_id (x := (i : Int) + 1) (by omega) (by omega)]
        refine Ev.pos (by omega) (Ev.pos (by omega) ?_)
        refine Ev.ite (fun n1 => ?_) (fun n1 => ?_)
        · rw [dec_f (fun w => (w.2.2.2.1 i hi').1 (by omega))]; exact Ev.const rfl
        refine Ev.pos (by omega) (Ev.pos (by omega) ?_)
        refine Ev.ite (fun n2 => ?_) (fun n2 => ?_)
        · refine ih (i + 1) (by omega) (by omega) (fun q hqi => ?_)
          by_cases e : q = i
          · subst e; exact ⟨by omega, by omega⟩
          · exact hq q (by omega)
        · rw [dec_f (fun w => n2 (by have := (w.2.2.2.1 i hi').2; omega))]; exact Ev.const rfl
    exact key f.length 0 (by omega) (by omega) (fun q hq => by omega)
  · rw [dec_f (fun w => h1 (dec_t ⟨w.1, w.2.1, w.2.2.1⟩))]; exact Ev.const rfl
/-! ### spec_VoltageValid -/
theorem spec_VoltageValid_ev (t f : List Int) (k : Int) (v : List (List Int)) (ht : t.length ≤ 1048576) (hf : f.length ≤ 1048576) (hv : Small v) : Ev (fun n => spec_VoltageValid.f n t f k v) (dec (VOK t f k v)) := by
  have eL : ∀ (xs : List (List Int)) (i : Int), rd_L1 xs i = rdL xs i := fun _ _ => rfl
  obtain ⟨hl, hs⟩ := hv
  have hno : ¬ VOK t f k v → Ev (fun n => spec_VoltageValid.j0 n k v true) (dec (VOK t f k v)) := fun h => by
    rw [dec_f h]
    exact Ev.step (fun n => by rw [spec_VoltageValid.j0]) (Ev.pos rfl (Ev.const rfl))
  unfold spec_VoltageValid.f
  refine Ev.bind (spec_MapValid_ev t f ht hf) ?_
  refine Ev.ite (fun h1 => ?_) (fun h1 => hno (fun w => h1 (dec_t w.1)))
  have hM := dec_iff.1 h1
  have hz := hM.size
  refine Ev.bindc (spec_l6In_eq _ _ _) ?_
  refine Ev.ite (fun h2 => ?_) (fun h2 => hno (fun w => h2 (decide_eq_true ⟨w.2.1.1, w.2.1.2⟩)))
  replace h2 := of_decide_eq_true h2
  have hb : 0 ≤ k * (t.length : Int) ∧ k * (t.length : Int) ≤ 72 := by
    have h3 := Int.mul_le_mul h2.2 (show (t.length : Int) ≤ 12 by omega) (by omega) (by omega)
    have h4 : 0 ≤ k * (t.length : Int) := Int.mul_nonneg (by omega) (by omega)
    omega
  rw [wrap64_id (x := k * (t.length : Int)) (by omega) (by omega)]
  refine Ev.ite (fun h3 => hno (fun w => by have := w.2.2.1; rw [Int.mul_comm] at this; omega)) (fun h3 => ?_)
  rw [show ((f.length : Int) / 2) = ((f.length / 2 : Nat) : Int) from rfl, wrap64_id (x := ((f.length / 2 : Nat) : Int)) (by omega) (by omega)]
  by_cases h4 : v.length = f.length / 2
  · rw [show ((v.length : Int) != ((f.length / 2 : Nat) : Int)) = false by simp; omega]
    refine Ev.step (fun n => by rw [spec_VoltageValid.j0]) ?_
    refine Ev.neg (by simp) ?_
    have key : ∀ d i, v.length - i = d → i ≤ v.length → (∀ e : Nat, e < i → POK (rdL v (e : Int)) ∧ ((rdL v (e : Int)).length : Int) = k) → Ev (fun n => spec_VoltageValid.l0 n k v (i : Nat)) (dec (VOK t f k v)) := by
      intro d
      induction d with
      | zero =>
        intro i hd hi hq
        obtain rfl : i = v.length := by omega
        refine Ev.step (fun n => by rw [spec_VoltageValid.l0]) ?_
        refine Ev.neg (by omega) ?_
        rw [dec_t]
        · exact Ev.const rfl
        · exact ⟨hM, h2, by rw [Int.mul_comm]; omega, h4, hq⟩
      | succ d ih =>
        intro i hd hi hq
        have hi' : i < v.length := by omega
        refine Ev.step (fun n => by rw [spec_VoltageValid.l0]) ?_
        rw [wrap64_id (x := (i : Int) + 1) (by omega) (by omega)]
        simp only [eL]
        refine Ev.pos (by omega) (Ev.pos (by omega) (Ev.bind (spec_PermValid_ev _ (hs i hi')) ?_))
        refine Ev.ite (fun q1 => ?_) (fun q1 => ?_)
        · refine Ev.ite (fun q2 => ?_) (fun q2 => ?_)
          · refine ih (i + 1) (by omega) (by omega) (fun e he => ?_)
            by_cases z : e = i
            · subst z; exact ⟨dec_iff.1 q1, q2⟩
            · exact hq e (by omega)
          · rw [dec_f (fun w => q2 (w.2.2.2.2 i hi').2)]; exact Ev.const rfl
        · rw [dec_f (fun w => q1 (dec_t (w.2.2.2.2 i hi').1))]; exact Ev.const rfl
    exact key v.length 0 (by omega) (by omega) (fun e he => by omega)
  · rw [show ((v.length : Int) != ((f.length / 2 : Nat) : Int)) = true by simp; omega]
    exact hno (fun w => h4 w.2.2.2.1)
/-! ### spec_l2Dart -/
theorem spec_l2Dart_ev (t f : List Int) (d : Int) (h : MOK t f) (ht : t.length ≤ 12) (h1 : 1 ≤ t.length) (hf : f.length ≤ 12) : Ev (fun k => spec_l2Dart.f k t f d) (decide (0 ≤ d ∧ d < (t.length : Int))) := by
  unfold spec_l2Dart.f
  refine Ev.bind (spec_MapValid_ev t f (by omega) (by omega)) ?_
  refine Ev.pos (dec_t h) ?_
  rw [wrap64_id (by omega) (by omega)]
  refine Ev.bindc (spec_l6In_eq _ _ _) (Ev.const ?_)
  congr 1
  rw [decide_eq_decide]
  omega
/-! ### spec_l1Mul -/
theorem spec_l1Mul_ev (a b : List Int) (hn : a.length ≤ 4194304) (h : ∀ i : Nat, i < a.length → 0 ≤ rd a (i : Int) ∧ rd a (i : Int) < b.length) : Ev (fun k => spec_l1Mul.f k a b) (mulL a b) := by
  have key : ∀ d i, a.length - i = d → i ≤ a.length → Ev (fun k => spec_l1Mul.l0 k a b ((mulL a b).take i) (i : Nat)) (mulL a b) := by
    intro d
    induction d with
    | zero =>
      intro i hd hi
      refine Ev.step (fun k => by rw [spec_l1Mul.l0]) (Ev.neg (by omega) (Ev.const ?_))
      rw [List.take_of_length_le (by rw [mulL_length]; omega)]
    | succ d ih =>
      intro i hd hi
      have e1 := h i (by omega)
      have hz : ((mulL a b).take i).length ≤ a.length := by rw [List.length_take, mulL_length]; omega
      refine Ev.step (fun k => by rw [spec_l1Mul.l0]) ?_
      rw [wrap64_id (x := (i : Int) + 1) (by omega) (by omega)]
      refine Ev.pos (by omega) (Ev.pos (by omega) (Ev.pos (by omega) (Ev.pos (by omega) (Ev.pos (by omega) ?_))))
      have := ih (i + 1) (by omega) (by omega)
      rw [List.take_succ_eq_append_getElem (by rw [mulL_length]; omega), ← rd_nat (mulL a b) i (by rw [mulL_length]; omega), rd_mulL a b i (by omega)] at this
      exact this
  unfold spec_l1Mul.f
  have := key a.length 0 (by omega) (by omega)
  exact this
/-! ### spec_l1Cycles -/
theorem spec_l1Cycles_l1 {n : Nat} (hn : n ≤ 4194304) {p : List Int} (hp : PermL n p) {i : Nat} (hi : i < n) (hl : lstB (EF n (fn p)) i = true) (out : List (List Int)) (hout : out.length ≤ i) (r : List (List Int))
    (hr : ∀ b, SeenAt n (fn p) (i + 1) b → Ev (fun k => spec_l1Cycles.l0 k p (out ++ [cycOf (fn p) i]) b (i + 1 : Nat)) r) :
    ∀ d t, per (fn p) i - t = d → t ≤ per (fn p) i → ∀ b, SeenIn n (fn p) i t b → Ev (fun k => spec_l1Cycles.l1 k p out b (i : Nat) ((List.range t).map (fun k => (itr (fn p) k i : Int))) (itr (fn p) t i : Int)) r := by
  have hpm := hp.perm
  obtain ⟨q1, q2, q3, q4⟩ := per_spec hpm hi
  intro d
  induction d with
  | zero =>
    intro t hd ht b hb
    obtain rfl : t = per (fn p) i := by omega
    obtain ⟨c1, c2⟩ := hb.closed hpm hi
    have hlt := itr_lt hpm hi (per (fn p) i)
    have hbl := hb.1
    refine Ev.step (fun k => by rw [spec_l1Cycles.l1]) ?_
    rw [wrap64_id (x := (i : Int) + 1) (by omega) (by omega)]
    refine Ev.pos (by omega) (Ev.pos (by omega) (Ev.pos c1 (Ev.pos (by omega) ?_)))
    exact hr b c2
  | succ d ih =>
    intro t hd ht b hb
    have hlt := itr_lt hpm hi t
    have hf := hb.fresh hpm hi hl (by omega)
    have hbl := hb.1
    have hpl := hp.1.1
    refine Ev.step (fun k => by rw [spec_l1Cycles.l1]) ?_
    refine Ev.pos (by omega) (Ev.pos (by omega) (Ev.neg (by rw [hf]; simp) (Ev.pos (by simp; omega) (Ev.pos (by omega) ?_))))
    rw [(hp.1.fn hlt).1, ← cycOf_take]
    exact ih (t + 1) (by omega) (by omega) _ (hb.next hpm hi)
theorem spec_l1Cycles_ev (n : Nat) (hn : n ≤ 4194304) (p : List Int) (hp : PermL n p) : Ev (fun k => spec_l1Cycles.f k p) (cycL n (fn p)) := by
  have hpm := hp.perm
  have hpl := hp.1.1
  have key : ∀ d i, n - i = d → i ≤ n → ∀ b, SeenAt n (fn p) i b → Ev (fun k => spec_l1Cycles.l0 k p (cycUp n (fn p) i) b (i : Nat)) (cycL n (fn p)) := by
    intro d
    induction d with
    | zero =>
      intro i hd hi b hb
      obtain rfl : i = n := by omega
      refine Ev.step (fun k => by rw [spec_l1Cycles.l0]) ?_
      exact Ev.neg (by omega) (Ev.const rfl)
    | succ d ih =>
      intro i hd hi b hb
      have hi' : i < n := by omega
      have hbl := hb.1
      have hls := hb.least hi'
      refine Ev.step (fun k => by rw [spec_l1Cycles.l0]) ?_
      rw [wrap64_id (x := (i : Int) + 1) (by omega) (by omega)]
      refine Ev.pos (by omega) (Ev.pos (by omega) (Ev.pos (by omega) ?_))
      cases q : rdOf false b (i : Int) with
      | true =>
        rw [q] at hls
        refine Ev.pos rfl ?_
        have := ih (i + 1) (by omega) (by omega) b (hb.skip hi' q)
        rw [cycUp_neg hls] at this
        exact this
      | false =>
        rw [q] at hls
        refine Ev.neg (by simp) ?_
        refine spec_l1Cycles_l1 hn hp hi' hls (cycUp n (fn p) i) (cycUp_length_le _ _ _) _ (fun b' hb' => ?_) (per (fn p) i) 0 (by omega) (by omega) b hb.into
        have := ih (i + 1) (by omega) (by omega) b' hb'
        rw [cycUp_pos hls] at this
        exact this
  unfold spec_l1Cycles.f
  rw [hpl]
  refine Ev.pos (by omega) (Ev.pos (by omega) ?_)
  exact key n 0 (by omega) (by omega) _ (SeenAt.start n _)
/-! ### spec_l7Vertices -/
theorem spec_l7Vertices_l1 {n : Nat} (hn : n ≤ 4194304) {t : List Int} (ht : PermL n t) {i : Nat} (hi : i < cyc n (fn t)) (r : List Int)
    (hr : ∀ o : List Int, o.length = n → (∀ x : Nat, x < n → vtx n t x < i + 1 → rd o (x : Int) = (vtx n t x : Int)) → Ev (fun k => spec_l7Vertices.l0 k o (cycL n (fn t)) ((i + 1 : Nat) : Int)) r) :
    ∀ d j, (rdL (cycL n (fn t)) (i : Int)).length - j = d → j ≤ (rdL (cycL n (fn t)) (i : Int)).length → ∀ o : List Int, o.length = n → (∀ x : Nat, x < n → vtx n t x < i → rd o (x : Int) = (vtx n t x : Int)) → (∀ q : Nat, q < j → rd o (rd (rdL (cycL n (fn t)) (i : Int)) (q : Int)) = (i : Int)) →
      Ev (fun k => spec_l7Vertices.l1 k o (cycL n (fn t)) (i : Nat) (j : Nat)) r := by
  have eL : ∀ (xs : List (List Int)) (i : Int), rd_L1 xs i = rdL xs i := fun _ _ => rfl
  have hcl := cycL_length n (fn t)
  have hF : Face n (rdL (cycL n (fn t)) (i : Int)) := cycL_face ht.perm (by rw [hcl]; exact hi)
  have hcy := cyc_le n (fn t)
  have hH := fun (x : Nat) (hx : x < n) => holds_iff ht hi hx
  intro d
  induction d with
  | zero =>
    intro j hd hj o ho h1 h2
    refine Ev.step (fun k => by rw [spec_l7Vertices.l1]) ?_
    simp only [eL]
    refine Ev.pos (by omega) (Ev.pos (by omega) (Ev.neg (by omega) ?_))
    rw [wrap64_id (x := (i : Int) + 1) (by omega) (by omega)]
    refine hr o ho (fun x hx hv => ?_)
    by_cases w : vtx n t x < i
    · exact h1 x hx w
    · have e : vtx n t x = i := by omega
      obtain ⟨q, q1, q2⟩ := (hH x hx).2 e
      rw [e, ← h2 q (by omega), q2]
  | succ d ih =>
    intro j hd hj o ho h1 h2
    have hj' : j < (rdL (cycL n (fn t)) (i : Int)).length := by omega
    obtain ⟨a1, a2⟩ := hF.fn hj'
    have hlen := hF.1
    refine Ev.step (fun k => by rw [spec_l7Vertices.l1]) ?_
    simp only [eL]
    rw [a1, wrap64_id (x := (j : Int) + 1) (by omega) (by omega)]
    simp only [Int.toNat_natCast]
    refine Ev.pos (by omega) (Ev.pos (by omega) (Ev.pos (by omega) (Ev.pos (by omega) (Ev.pos (by omega) (Ev.pos (by omega) ?_)))))
    have hvx : vtx n t (fn (rdL (cycL n (fn t)) (i : Int)) j) = i := (hH _ a2).1 ⟨j, hj', a1⟩
    refine ih (j + 1) (by omega) (by omega) _ (by simp [ho]) (fun x hx hv => ?_) (fun q hq => ?_)
    · have hne : fn (rdL (cycL n (fn t)) (i : Int)) j ≠ x := fun w => by rw [w] at hvx; omega
      rw [rd_set_ne _ _ _ _ hne]; exact h1 x hx hv
    · obtain ⟨b1, b2⟩ := hF.fn (show q < (rdL (cycL n (fn t)) (i : Int)).length by omega)
      rw [b1]
      by_cases w : fn (rdL (cycL n (fn t)) (i : Int)) j = fn (rdL (cycL n (fn t)) (i : Int)) q
      · rw [w, rd_set_self _ _ _ (by omega)]
      · rw [rd_set_ne _ _ _ _ w]
        have hqj : q < j := by
          by_cases z : q = j
          · subst z; exact absurd rfl w
          · omega
        have := h2 q hqj
        rwa [b1] at this
theorem spec_l7Vertices_ev {n : Nat} (hn : n ≤ 4194304) {t : List Int} (ht : PermL n t) : Ev (fun k => spec_l7Vertices.f k t) (vtxL n t) := by
  have hl := ht.1.1
  have hcl := cycL_length n (fn t)
  have hcy := cyc_le n (fn t)
  have key : ∀ d i, cyc n (fn t) - i = d → i ≤ cyc n (fn t) → ∀ o : List Int, o.length = n → (∀ x : Nat, x < n → vtx n t x < i → rd o (x : Int) = (vtx n t x : Int)) → Ev (fun k => spec_l7Vertices.l0 k o (cycL n (fn t)) (i : Nat)) (vtxL n t) := by
    intro d
    induction d with
    | zero =>
      intro i hd hi o ho h1
      refine Ev.step (fun k => by rw [spec_l7Vertices.l0]) ?_
      refine Ev.neg (by omega) (Ev.const ?_)
      congr 1
      refine list_ext_rd (by rw [ho, vtxL_length]) (fun x hx => ?_)
      have := vtx_lt t (show x < n by omega)
      rw [h1 x (by omega) (by omega), rd_vtxL _ _ _ (by omega)]
    | succ d ih =>
      intro i hd hi o ho h1
      refine Ev.step (fun k => by rw [spec_l7Vertices.l0]) ?_
      refine Ev.pos (by omega) ?_
      exact spec_l7Vertices_l1 hn ht (show i < cyc n (fn t) by omega) _ (fun o' ho' h' => ih (i + 1) (by omega) (by omega) o' ho' h') _ 0 rfl (by omega) o ho h1 (fun q hq => absurd hq (by omega))
  unfold spec_l7Vertices.f
  rw [hl]
  refine Ev.pos (by omega) (Ev.pos (by omega) (Ev.bind (spec_l1Cycles_ev n hn t ht) ?_))
  simp only [Int.toNat_natCast]
  exact key _ 0 rfl (by omega) _ (by simp) (fun x hx hv => absurd hv (by omega))
/-! ### spec_l1Back -/
theorem back_ext {n : Nat} {p x : List Int} (hp : PermL n p) (hx : x.length = n) (hq : ∀ q : Nat, q < n → rd x (fn p q : Int) = (q : Int)) : x = backL p := by
  have h := hp.perm
  refine list_ext_rd (by rw [hx, backL_length, hp.1.1]) (fun j hj => ?_)
  rw [rd_backL p j (by rw [hp.1.1]; omega), hp.1.1]
  have := hq (bck n (fn p) j) (h.gl j (by omega))
  rw [h.fg j (by omega)] at this
  exact this
theorem back_set {n : Nat} {p x : List Int} (hp : PermL n p) (hx : x.length = n) {i : Nat} (hi : i < n) (hq : ∀ q : Nat, q < i → rd x (fn p q : Int) = (q : Int)) : ∀ q : Nat, q < i + 1 → rd (x.set (fn p i) (i : Int)) (fn p q : Int) = (q : Int) := by
  intro q hqi
  by_cases e : q = i
  · subst e; exact rd_set_self _ _ _ (by rw [hx]; exact (hp.1.fn hi).2)
  · rw [rd_set_ne _ _ _ _ (fun w => e (hp.2 q i (by omega) hi w.symm))]; exact hq q (by omega)
theorem spec_l1Back_ev (n : Nat) (hn : n ≤ 4194304) (p : List Int) (hp : PermL n p) : Ev (fun k => spec_l1Back.f k p) (backL p) := by
  have hl := hp.1.1
  have key : ∀ d i, n - i = d → i ≤ n → ∀ x : List Int, x.length = n → (∀ q : Nat, q < i → rd x (fn p q : Int) = (q : Int)) → Ev (fun k => spec_l1Back.l0 k p x (i : Nat)) (backL p) := by
    intro d
    induction d with
    | zero =>
      intro i hd hi x hx hq
      refine Ev.step (fun k => by rw [spec_l1Back.l0]) ?_
      refine Ev.neg (by omega) (Ev.const ?_)
      rw [back_ext hp hx (fun q hq' => hq q (by omega))]
    | succ d ih =>
      intro i hd hi x hx hq
      have e1 := hp.1.fn (show i < n by omega)
      refine Ev.step (fun k => by rw [spec_l1Back.l0]) ?_
      rw [e1.1, wrap64_id (x := (i : Int) + 1) (by omega) (by omega)]
      simp only [toNat_nat]
      refine Ev.pos (by omega) (Ev.pos (by omega) (Ev.pos (by omega) (Ev.pos (by omega) ?_)))
      exact ih (i + 1) (by omega) (by omega) _ (by simp [hx]) (back_set hp hx (by omega) hq)
  unfold spec_l1Back.f
  rw [hl]
  refine Ev.pos (by omega) (Ev.pos (by omega) ?_)
  exact key n 0 (by omega) (by omega) _ (by simp) (fun q hq => by omega)
/-! ### spec_l2Copy -/
theorem spec_l2Copy_eq (l : List Int) (h : l.length ≤ 1048576) : spec_l2Copy.f l = some l := by
  unfold spec_l2Copy.f
  simp only [Option.bind_some, List.length_nil, List.nil_append]
  exact if_pos (by omega)
/-! ### spec_l7Edges -/
theorem spec_l7Edges_ev (n : Nat) (hn : n ≤ 4194304) (t f : List Int) (hf : PairL n f) : Ev (fun k => spec_l7Edges.f k t f) (edgL f) := by
  have hl := hf.pts.1
  have key : ∀ d i, n - i = d → i ≤ n → ∀ x : List Int, x.length = n → (∀ j : Nat, j < n → (j < i ∨ fn f j < i) → rd x (j : Int) = edgeN f j) → Ev (fun k => spec_l7Edges.l0 k x (cntP (lowD f) i : Nat) (i : Nat) t f) (edgL f) := by
    intro d
    induction d with
    | zero =>
      intro i hd hi x hx hq
      refine Ev.step (fun k => by rw [spec_l7Edges.l0]) ?_
      refine Ev.neg (by omega) (Ev.const ?_)
      congr 1
      refine list_ext_rd (by rw [hx, edgL_length, hl]) (fun j hj => ?_)
      rw [hq j (by omega) (.inl (by omega)), rd_edgL f j (by omega)]
    | succ d ih =>
      intro i hd hi x hx hq
      have hi' : i < n := by omega
      have e1 := hf.pts.fn hi'
      have hc := cntP_le (lowD f) i
      refine Ev.step (fun k => by rw [spec_l7Edges.l0]) ?_
      rw [e1.1, wrap64_id (x := (i : Int) + 1) (by omega) (by omega), wrap64_id (x := ((cntP (lowD f) i : Nat) : Int) + 1) (by omega) (by omega)]
      simp only [toNat_nat]
      refine Ev.pos (by omega) (Ev.pos (by omega) (Ev.pos (by omega) ?_))
      refine Ev.ite (fun q => ?_) (fun q => ?_)
      · have hlow : lowD f i = true := decide_eq_true (by omega)
        obtain ⟨g1, g2⟩ := hf.edge_of hi' hlow
        refine Ev.pos (by omega) (Ev.pos (by omega) ?_)
        have := ih (i + 1) (by omega) (by omega) ((x.set i (cntP (lowD f) i : Int)).set (fn f i) (cntP (lowD f) i : Int)) (by simp [hx]) (fun j hj hjs => by
          by_cases a : j = fn f i
          · subst a
            rw [rd_set_self _ _ _ (by simp [hx]; omega), g2]
          · rw [rd_set_ne _ _ _ _ (fun w => a w.symm)]
            by_cases b : j = i
            · subst b
              rw [rd_set_self _ _ _ (by omega), g1]
            · rw [rd_set_ne _ _ _ _ (fun w => b w.symm)]
              refine hq j hj ?_
              rcases hjs with c | c
              · exact .inl (by omega)
              · refine .inr ?_
                by_cases z : fn f j = i
                · exact absurd (by rw [← hf.inv j hj, z]) a
                · omega)
        have ec : cntP (lowD f) (i + 1) = cntP (lowD f) i + 1 := by simp only [cntP]; rw [if_pos hlow]
        rw [ec] at this
        exact this
      · have hlow : lowD f i = false := decide_eq_false (by omega)
        have := ih (i + 1) (by omega) (by omega) x hx (fun j hj hjs => by
          have hne := hf.ne i hi'
          rcases hjs with c | c
          · by_cases z : j = i
            · subst z; exact hq j hj (.inr (by omega))
            · exact hq j hj (.inl (by omega))
          · by_cases z : fn f j = i
            · have : j = fn f i := by rw [← hf.inv j hj, z]
              exact hq j hj (.inl (by omega))
            · exact hq j hj (.inr (by omega)))
        have ec : cntP (lowD f) (i + 1) = cntP (lowD f) i := by simp only [cntP]; rw [if_neg (by rw [hlow]; simp)]; rfl
        rw [ec] at this
        exact this
  unfold spec_l7Edges.f
  rw [hl]
  refine Ev.pos (by omega) (Ev.pos (by omega) ?_)
  exact key n 0 (by omega) (by omega) _ (by simp) (fun j hj hjs => by rcases hjs with c | c <;> omega)
/-! ### spec_l7Dart -/
theorem spec_l7Dart_ev {n : Nat} (hn : n ≤ 4194304) {t f : List Int} (hf : PairL n f) {e : Nat} (he : e < n / 2) : Ev (fun k => spec_l7Dart.f k t f (e : Nat)) (ldart n f e : Int) := by
  obtain ⟨s1, s2, s3⟩ := ldart_spec hf he
  have hl := hf.pts.1
  have hel := edgL_length f
  have key : ∀ d i, ldart n f e - i = d → i ≤ ldart n f e → Ev (fun k => spec_l7Dart.l0 k (e : Nat) (edgL f) (i : Nat)) (ldart n f e : Int) := by
    intro d
    induction d with
    | zero =>
      intro i hd hi
      obtain rfl : i = ldart n f e := by omega
      refine Ev.step (fun k => by rw [spec_l7Dart.l0]) ?_
      rw [rd_edgL f _ (by omega), (hf.edge_of s1 s2).1, s3]
      exact Ev.pos (by omega) (Ev.pos (by omega) (Ev.pos rfl (Ev.const rfl)))
    | succ d ih =>
      intro i hd hi
      refine Ev.step (fun k => by rw [spec_l7Dart.l0]) ?_
      rw [rd_edgL f _ (by omega), wrap64_id (x := (i : Int) + 1) (by omega) (by omega)]
      refine Ev.pos (by omega) (Ev.pos (by omega) (Ev.neg (fun w => ?_) (ih (i + 1) (by omega) (by omega))))
      obtain ⟨a, a1, a2, a3, a4⟩ := hf.low (show i < n by omega)
      have ea : a = ldart n f e := low_unique a2 s2 (by rw [← a3, s3]; omega)
      subst ea
      have : ldart n f e < fn f (ldart n f e) := of_decide_eq_true s2
      omega
  unfold spec_l7Dart.f
  refine Ev.bind (spec_l7Edges_ev n hn t f hf) ?_
  exact key _ 0 rfl (by omega)
/-! ### spec_l9Conj -/
theorem spec_l9Conj_ev {n κ : Nat} {t f : List Int} {v : List (List Int)} (h : VN n κ t f v) {b : List Int} (hb : PermL κ b) (u : Nat) : Ev (fun k => spec_l9Conj.f k t f v (u : Nat) b) (conjV n t f v u b) := by
  have eL : ∀ (xs : List (List Int)) (i : Int), rd_L1 xs i = rdL xs i := fun _ _ => rfl
  have hn := h.n1
  have hκ := h.k1
  have hvl := h.vl
  have hfl := h.fp.1.1
  have hvx := vtxL_length n t
  have mul : ∀ {x y : List Int}, PermL κ x → PermL κ y → Ev (fun k => spec_l1Mul.f k x y) (mulL x y) := fun {x y} hx hy => spec_l1Mul_ev x y (by have := hx.1.1; omega) (fun i hi => by
    have := hx.1.2 i (by have := hx.1.1; omega)
    have := hy.1.1; omega)
  have cp : ∀ {x : List Int}, PermL κ x → spec_l2Copy.f x = some x := fun {x} hx => spec_l2Copy_eq x (by have := hx.1.1; omega)
  have key : ∀ d e, v.length - e = d → e ≤ v.length → Ev (fun k => spec_l9Conj.l0 k v (u : Nat) b (vtxL n t) ((List.range e).map (conjE n t f v u b)) (e : Nat) t f) (conjV n t f v u b) := by
    intro d
    induction d with
    | zero =>
      intro e hd he
      obtain rfl : e = v.length := by omega
      refine Ev.step (fun k => by rw [spec_l9Conj.l0]) ?_
      exact Ev.neg (by omega) (Ev.const rfl)
    | succ d ih =>
      intro e hd he
      have he' : e < v.length := by omega
      obtain ⟨a2, a3, a4⟩ := ldart_spec h.pr (show e < n / 2 by omega)
      have fa := h.fp.1.fn a2
      have hx := h.vp e he'
      have hk := backL_perm hb
      have nx := ih (e + 1) (by omega) (by omega)
      rw [List.range_succ, List.map_append, List.map_cons, List.map_nil] at nx
      have hE : conjE n t f v u b e = if vtx n t (fn f (ldart n f e)) = u then mulL (if vtx n t (ldart n f e) = u then mulL (backL b) (rdL v (e : Int)) else rdL v (e : Int)) b else (if vtx n t (ldart n f e) = u then mulL (backL b) (rdL v (e : Int)) else rdL v (e : Int)) := rfl
      have olen : ((List.range e).map (conjE n t f v u b)).length = e := by simp
      refine Ev.step (fun k => by rw [spec_l9Conj.l0]) ?_
      refine Ev.pos (by omega) (Ev.bind (spec_l7Dart_ev (by omega) h.pr (show e < n / 2 by omega)) ?_)
      simp only [eL]
      rw [rd_vtxL n t _ a2, fa.1, rd_vtxL n t _ fa.2, wrap64_id (x := (e : Int) + 1) (by omega) (by omega)]
      refine Ev.pos (by omega) (Ev.pos (by omega) (Ev.pos (by omega) ?_))
      refine Ev.ite (fun q => ?_) (fun q => ?_)
      · have q' : vtx n t (ldart n f e) = u := by omega
        rw [if_pos q'] at hE
        refine Ev.bind (spec_l1Back_ev κ (by omega) b hb) (Ev.bind (mul hk hx) ?_)
        refine Ev.pos (by omega) (Ev.pos (by omega) (Ev.pos (by omega) (Ev.ite (fun z => ?_) (fun z => ?_))))
        · have z' : vtx n t (fn f (ldart n f e)) = u := by omega
          rw [if_pos z'] at hE
          rw [hE] at nx
          exact Ev.bind (mul (mulL_perm hk hx) hb) (Ev.bindc (cp (mulL_perm (mulL_perm hk hx) hb)) (Ev.pos (by omega) nx))
        · have z' : ¬ vtx n t (fn f (ldart n f e)) = u := by omega
          rw [if_neg z'] at hE
          rw [hE] at nx
          exact Ev.bindc (cp (mulL_perm hk hx)) (Ev.pos (by omega) nx)
      · have q' : ¬ vtx n t (ldart n f e) = u := by omega
        rw [if_neg q'] at hE
        refine Ev.pos (by omega) (Ev.pos (by omega) (Ev.pos (by omega) (Ev.ite (fun z => ?_) (fun z => ?_))))
        · have z' : vtx n t (fn f (ldart n f e)) = u := by omega
          rw [if_pos z'] at hE
          rw [hE] at nx
          exact Ev.bind (mul hx hb) (Ev.bindc (cp (mulL_perm hx hb)) (Ev.pos (by omega) nx))
        · have z' : ¬ vtx n t (fn f (ldart n f e)) = u := by omega
          rw [if_neg z'] at hE
          rw [hE] at nx
          exact Ev.bindc (cp hx) (Ev.pos (by omega) nx)
  unfold spec_l9Conj.f
  refine Ev.bind (spec_l7Vertices_ev (by omega) h.tp) ?_
  exact key _ 0 rfl (by omega)
/-! ### spec_CoverConj -/
theorem spec_CoverConj_ev (t f : List Int) (k : Int) (v : List (List Int)) (d : Int) (b : List Int) (ht : t.length ≤ 1048576) (hf : f.length ≤ 1048576) (hv : Small v) (hb : b.length ≤ 1048576) : Ev (fun n => spec_CoverConj.f n t f k v d b) (ccV t f k v d b) := by
  have hno : ¬ (VOK t f k v ∧ (0 ≤ d ∧ d < (t.length : Int)) ∧ POK b ∧ (b.length : Int) = k) → Ev (fun n => spec_CoverConj.j0 n v d b true t f) (ccV t f k v d b) := fun h => by
    unfold ccV; rw [if_neg (fun w => h (dec_iff.1 w))]
    refine Ev.step (fun n => by rw [spec_CoverConj.j0]) ?_
    exact Ev.pos rfl (Ev.const rfl)
  unfold spec_CoverConj.f
  refine Ev.bind (spec_VoltageValid_ev t f k v ht hf hv) ?_
  refine Ev.ite (fun h1 => ?_) (fun h1 => hno (fun w => h1 (dec_t w.1)))
  have hV := dec_iff.1 h1
  obtain ⟨κ, rfl, hN⟩ := hV.vn
  have hM := hV.1
  have hz := hM.size
  refine Ev.bind (spec_l2Dart_ev t f d hM (by omega) (by omega) (by omega)) ?_
  refine Ev.ite (fun h2 => ?_) (fun h2 => hno (fun w => h2 (decide_eq_true w.2.1)))
  have hd := of_decide_eq_true h2
  refine Ev.bind (spec_PermValid_ev b hb) ?_
  refine Ev.ite (fun h3 => ?_) (fun h3 => hno (fun w => h3 (dec_t w.2.2.1)))
  have hB := dec_iff.1 h3
  by_cases h4 : (b.length : Int) = κ
  · have eV : ccV t f κ v d b = (conjV t.length t f v (vtx t.length t d.toNat) b, true) := by unfold ccV; rw [if_pos (dec_t ⟨hV, hd, hB, h4⟩)]
    rw [eV, show ((b.length : Int) != (κ : Int)) = false by simp [h4]]
    refine Ev.step (fun n => by rw [spec_CoverConj.j0]) ?_
    refine Ev.neg (by simp) ?_
    obtain ⟨x, rfl⟩ := Int.eq_ofNat_of_zero_le hd.1
    have hx : x < t.length := by omega
    have hvx := vtxL_length t.length t
    have hbp := hB.2
    rw [show b.length = κ by omega] at hbp
    refine Ev.bind (spec_l7Vertices_ev (by omega) hN.tp) (Ev.pos (by omega) (Ev.pos (by omega) ?_))
    rw [rd_vtxL _ _ _ hx]
    exact Ev.bind (spec_l9Conj_ev hN hbp _) (Ev.const rfl)
  · rw [show ((b.length : Int) != (κ : Int)) = true by simpa using h4]
    exact hno (fun w => h4 w.2.2.2)
/-! ### impl_PermValid -/
theorem impl_PermValid_eq (p : List Int) : impl_PermValid.f p = some (dec (POK p)) := by
  show some (decide _) = _
  congr 1
  refine dec_of (and_congr_right fun _ => ⟨fun h => ⟨⟨rfl, fun i hi => (h i hi).1⟩, fun i j hi hj e => ?_⟩, fun h j hj => ⟨h.1.2 j hj, fun k hk e => ?_⟩⟩)
  · have h1 := (h i hi).1
    have h2 := (h j hj).1
    unfold fn at e
    have e' : rd p (i : Int) = rd p (j : Int) := by omega
    rcases Nat.lt_trichotomy i j with q | q | q
    · exact absurd e' ((h j hj).2 i q)
    · exact q
    · exact absurd e'.symm ((h i hi).2 j q)
  · have := h.2 k j (by omega) hj (by unfold fn; rw [e])
    omega
/-! ### slices_Max_int_int -/
theorem slices_Max_up (o : List Int) (m : Int) : ∀ i : Nat, m ≤ slices_Max_int_int.go o m i ∧ (∀ j : Nat, j < i → rd o (j : Int) ≤ slices_Max_int_int.go o m i) ∧ (slices_Max_int_int.go o m i = m ∨ ∃ j : Nat, j < i ∧ slices_Max_int_int.go o m i = rd o (j : Int))
  | 0 => ⟨Int.le_refl _, fun j hj => by omega, .inl rfl⟩
  | i + 1 => by
    obtain ⟨h1, h2, h3⟩ := slices_Max_up o m i
    simp only [slices_Max_int_int.go]
    generalize slices_Max_int_int.go o m i = v at *
    split
    · next hlt =>
      refine ⟨by omega, fun j hj => ?_, .inr ⟨i, by omega, rfl⟩⟩
      by_cases e : j = i
      · subst e; exact Int.le_refl _
      · have := h2 j (by omega); omega
    · next hlt =>
      refine ⟨h1, fun j hj => ?_, ?_⟩
      · by_cases e : j = i
        · subst e; omega
        · exact h2 j (by omega)
      · rcases h3 with h3 | ⟨j, hj, h3⟩
        · exact .inl h3
        · exact .inr ⟨j, by omega, h3⟩
theorem slices_Max_zero (o : List Int) (h : 0 < o.length) (h0 : ∀ i : Nat, i < o.length → 0 ≤ rd o (i : Int)) : ∃ v, slices_Max_int_int.f o = some v ∧ (v = 0 ↔ ∀ i : Nat, i < o.length → rd o (i : Int) = 0) := by
  refine ⟨_, by unfold slices_Max_int_int.f; rw [if_pos h], ?_⟩
  unfold slices_Max_int_int.up
  obtain ⟨h1, h2, h3⟩ := slices_Max_up o (rd o 0) o.length
  constructor
  · intro e i hi
    have := h2 i hi
    have := h0 i hi
    omega
  · intro ha
    rcases h3 with h3 | ⟨j, hj, h3⟩
    · rw [h3]; exact ha 0 h
    · rw [h3]; exact ha j hj
/-! ### impl_still -/
theorem impl_still_ev (n : Nat) (hn : n ≤ 4194304) : Ev (fun k => impl_still.f k (n : Nat)) (idL n) := by
  have key : ∀ d i, n - i = d → i ≤ n → ∀ x3 : List Int, x3.length = n → (∀ q : Nat, q < i → rd x3 (q : Int) = (q : Int)) → Ev (fun k => impl_still.l0 k x3 (n : Nat) (i : Nat)) (idL n) := by
    intro d
    induction d with
    | zero =>
      intro i hd hi x3 h3 hq
      obtain rfl : i = n := by omega
      refine Ev.step (fun k => by rw [impl_still.l0]) ?_
      refine Ev.neg (by omega) (Ev.const ?_)
      congr 1
      exact list_ext_rd (by rw [h3, idL_length]) (fun q hq' => by rw [hq q (by omega), rd_idL i q (by omega)])
    | succ d ih =>
      intro i hd hi x3 h3 hq
      refine Ev.step (fun k => by rw [impl_still.l0]) (Ev.pos (by omega) (Ev.pos (by omega) (Ev.pos (by omega) ?_)))
      rw [wrap64_id (by omega) (by omega)]
      refine ih (i + 1) (by omega) (by omega) (x3.set i (i : Int)) (by simp [h3]) (fun q hqi => ?_)
      by_cases e : i = q
      · subst e; exact rd_set_self _ _ _ (by omega)
      · rw [rd_set_ne _ _ _ _ e]; exact hq q (by omega)
  unfold impl_still.f
  refine Ev.pos (by omega) (Ev.pos (by omega) (Ev.bindc rfl ?_))
  have := key n 0 (by omega) (by omega) (List.replicate n 0) (by simp) (fun q hq => by omega)
  rw [List.length_replicate]
  exact this
/-! ### impl_orbits -/
def orbSum (o : List Int) : Nat := o.foldr (fun x s => x.toNat + s) 0
theorem orbSum_set (o : List Int) : ∀ (i : Nat) (x : Int), i < o.length → 0 ≤ x → x < rd o (i : Int) → orbSum (o.set i x) < orbSum o := by
  induction o with
  | nil => intro i x h; simp at h
  | cons y l ih =>
    intro i x h h0 hx
    cases i with
    | zero =>
      have : rd (y :: l) ((0 : Nat) : Int) = y := rfl
      rw [this] at hx
      simp only [List.set_cons_zero, orbSum, List.foldr_cons]
      omega
    | succ i =>
      have : rd (y :: l) ((i + 1 : Nat) : Int) = rd l (i : Int) := by
        simp only [rd, List.getD_eq_getElem?_getD, Int.toNat_natCast, List.getElem?_cons_succ]
      rw [this] at hx
      have := ih i x (by simpa using h) h0 hx
      simp only [List.set_cons_succ, orbSum, List.foldr_cons] at *
      omega
theorem orbSum_set_le (o : List Int) (i : Nat) (x : Int) (h : i < o.length) (h0 : 0 ≤ x) (hx : x ≤ rd o (i : Int)) : orbSum (o.set i x) ≤ orbSum o := by
  by_cases e : x = rd o (i : Int)
  · have : o.set i x = o := by
      refine list_ext_rd (by simp) (fun q hq => ?_)
      by_cases eq : i = q
      · subst eq; rw [rd_set_self _ _ _ h, e]
      · rw [rd_set_ne _ _ _ _ eq]
    rw [this]; exact Nat.le_refl _
  · exact Nat.le_of_lt (orbSum_set o i x h h0 (by omega))
theorem impl_orbits_l2_ev {n : Nat} (hn : n ≤ 4194304) {a b : List Int} (ha : Pts n a) (hb : Pts n b) (p : List Int) (hp : Pts n p)
    (hpc : ∀ i, i < n → Con n a b i (fn p i)) (L : List (List Int)) (o0 : List Int) (x17 x18 : Int) (r : List Int) (pre : Prop)
    (hr : ∀ o g, OrbPre n a b o → (g = true → orbSum o < orbSum o0) → (g = false → o = o0 ∧ pre ∧ ∀ i, i < n → rd o (fn p i : Int) = rd o (i : Int)) → Ev (fun k => impl_orbits.l1 k L o g L x17 (wrap64 (x18 + 1))) r) :
    ∀ d i, n - i = d → i ≤ n → ∀ o g, OrbPre n a b o → (g = true → orbSum o < orbSum o0) → (g = false → o = o0 ∧ pre ∧ ∀ q, q < i → rd o (fn p q : Int) = rd o (q : Int)) →
      Ev (fun k => impl_orbits.l2 k L o g L x17 x18 p (n : Nat) (i : Nat)) r := by
  intro d
  induction d with
  | zero =>
    intro i hd hi o g h hg hf
    obtain rfl : i = n := by omega
    refine Ev.step (fun k => by rw [impl_orbits.l2]) ?_
    refine Ev.neg (by omega) ?_
    exact hr o g h hg hf
  | succ d ih =>
    intro i hd hi o g h hg hf
    have hi' : i < n := by omega
    have ep := hp.fn hi'
    have lp := hp.1
    have lo := h.1
    have gi := h.2 i hi'
    have gp := h.2 _ ep.2
    refine Ev.step (fun k => by rw [impl_orbits.l2]) ?_
    rw [ep.1, wrap64_id (x := (i : Int) + 1) (by omega) (by omega)]
    simp only [toNat_nat]
    refine Ev.pos (by omega) (Ev.pos (by omega) (Ev.pos (by omega) (Ev.pos (by omega) (Ev.pos (by omega) (Ev.pos (by omega) ?_)))))
    -- what a change does
    have hch : ¬ (rd o (i : Int) = rd o (fn p i : Int)) → Ev (fun k => impl_orbits.l2 k L ((o.set i (mn (rd o (i : Int)) (rd o (fn p i : Int)))).set (fn p i) (mn (rd o (i : Int)) (rd o (fn p i : Int)))) true L x17 x18 p (n : Nat) ((i : Int) + 1)) r := by
      intro hne
      have hx : mn (rd o (i : Int)) (rd o (fn p i : Int)) ≤ rd o (i : Int) ∧ mn (rd o (i : Int)) (rd o (fn p i : Int)) ≤ rd o (fn p i : Int) ∧ (mn (rd o (i : Int)) (rd o (fn p i : Int)) < rd o (i : Int) ∨ mn (rd o (i : Int)) (rd o (fn p i : Int)) < rd o (fn p i : Int)) ∧ 0 ≤ mn (rd o (i : Int)) (rd o (fn p i : Int)) ∧
          (mn (rd o (i : Int)) (rd o (fn p i : Int)) = rd o (i : Int) ∨ mn (rd o (i : Int)) (rd o (fn p i : Int)) = rd o (fn p i : Int)) := by unfold mn; omega
      generalize mn (rd o (i : Int)) (rd o (fn p i : Int)) = x at *
      obtain ⟨x1, x2, x3, x4, x5⟩ := hx
      have hcx : Con n a b i x.toNat := by
        rcases x5 with e | e
        · rw [e]; exact gi.2.2
        · rw [e]; exact (hpc i hi').trans gp.2.2
      have p1 := h.put hi' x x4 (by omega) hcx
      have p2 := p1.put ep.2 x x4 (by omega) ((hpc i hi').symm.trans hcx)
      have hs : orbSum ((o.set i x).set (fn p i) x) < orbSum o := by
        have l1 := orbSum_set_le o i x (by omega) x4 x1
        by_cases e : i = fn p i
        · rw [← e] at hne; exact absurd rfl hne
        · have e2 : rd (o.set i x) (fn p i : Int) = rd o (fn p i : Int) := rd_set_ne _ _ _ _ e
          have l2 := orbSum_set_le (o.set i x) (fn p i) x (by simp; omega) x4 (by omega)
          rcases x3 with q | q
          · have := orbSum_set o i x (by omega) x4 q; omega
          · have := orbSum_set (o.set i x) (fn p i) x (by simp; omega) x4 (by omega); omega
      have hs0 : orbSum o ≤ orbSum o0 := by
        cases g with
        | true => exact Nat.le_of_lt (hg rfl)
        | false => rw [(hf rfl).1]; exact Nat.le_refl _
      exact ih (i + 1) (by omega) (by omega) _ true p2 (fun _ => by omega) (fun q => by cases q)
    refine Ev.ite (fun e1 => Ev.ite (fun e2 => ?_) (fun e2 => hch (fun e => e2 ?_))) (fun e1 => hch (fun e => e1 ?_))
    · refine ih (i + 1) (by omega) (by omega) o g h hg (fun hgf => ?_)
      obtain ⟨f1, f2, f3⟩ := hf hgf
      refine ⟨f1, f2, fun q hq => ?_⟩
      by_cases e : q = i
      · subst e; omega
      · exact f3 q (by omega)
    · unfold mn at *; omega
    · unfold mn; omega
theorem impl_orbits_ev (n : Nat) (hn : n ≤ 4194304) (a b : List Int) (ha : Pts n a) (hb : Pts n b) : Ev (fun k => impl_orbits.f k [a, b]) (orbL a b) := by
  have la := ha.1
  have lb := hb.1
  have r0 : rd_L1 [a, b] ((0 : Nat) : Int) = a := rfl
  have r1 : rd_L1 [a, b] ((1 : Nat) : Int) = b := rfl
  have main : ∀ m o, orbSum o ≤ m → OrbPre n a b o → Ev (fun k => impl_orbits.l0 k [a, b] o true) (orbL a b) := by
    intro m
    induction m using Nat.strongRecOn with
    | _ m ih =>
      intro o hm h
      refine Ev.step (fun k => by rw [impl_orbits.l0]) ?_
      refine Ev.pos rfl ?_
      have last : ∀ o' g, OrbPre n a b o' → (g = true → orbSum o' < orbSum o) → (g = false → o' = o ∧ (∀ i, i < n → rd o' (fn a i : Int) = rd o' (i : Int)) ∧ ∀ i, i < n → rd o' (fn b i : Int) = rd o' (i : Int)) →
          Ev (fun k => impl_orbits.l1 k [a, b] o' g [a, b] ((2 : Nat) : Int) ((2 : Nat) : Int)) (orbL a b) := by
        intro o' g h' hg hf
        refine Ev.step (fun k => by rw [impl_orbits.l1]) ?_
        refine Ev.neg (by omega) ?_
        cases g with
        | true => exact ih (orbSum o') (by have := hg rfl; omega) o' (Nat.le_refl _) h'
        | false =>
          obtain ⟨f1, f2, f3⟩ := hf rfl
          refine Ev.step (fun k => by rw [impl_orbits.l0]) ?_
          refine Ev.neg (by simp) (Ev.const ?_)
          congr 1
          exact IsOrb.eq ha hb ⟨h', fun i hi => ⟨f2 i hi, f3 i hi⟩⟩
      have second : ∀ o' g, OrbPre n a b o' → (g = true → orbSum o' < orbSum o) → (g = false → o' = o ∧ True ∧ ∀ i, i < n → rd o' (fn a i : Int) = rd o' (i : Int)) →
          Ev (fun k => impl_orbits.l1 k [a, b] o' g [a, b] ((2 : Nat) : Int) ((1 : Nat) : Int)) (orbL a b) := by
        intro o' g h' hg hf
        refine Ev.step (fun k => by rw [impl_orbits.l1]) ?_
        refine Ev.pos (by omega) (Ev.pos (by omega) (Ev.pos (by simp) ?_))
        rw [r1, lb]
        refine impl_orbits_l2_ev hn ha hb b hb (fun i hi => Con.fb hi) [a, b] o _ _ _ (∀ i, i < n → rd o (fn a i : Int) = rd o (i : Int)) (fun o2 g2 h2 hg2 hf2 => ?_) n 0 (by omega) (by omega) o' g h' hg (fun q => ?_)
        · have e : wrap64 (((1 : Nat) : Int) + 1) = ((2 : Nat) : Int) := by rw [wrap64_id (by omega) (by omega)]; rfl
          rw [e]
          exact last o2 g2 h2 hg2 (fun q => by obtain ⟨z1, z2, z3⟩ := hf2 q; refine ⟨z1, ?_, z3⟩; rw [z1]; exact z2)
        · obtain ⟨z1, _, z3⟩ := hf q
          exact ⟨z1, by rw [z1] at z3; exact z3, fun q hq => by omega⟩
      refine Ev.step (fun k => by rw [impl_orbits.l1]) ?_
      refine Ev.pos (by simp) (Ev.pos (by omega) (Ev.pos (by simp) ?_))
      have r0' : rd_L1 [a, b] 0 = a := rfl
      rw [r0', la]
      refine impl_orbits_l2_ev hn ha hb a ha (fun i hi => Con.fa hi) [a, b] o _ _ _ True (fun o2 g2 h2 hg2 hf2 => ?_) n 0 (by omega) (by omega) o false h (fun q => by cases q) (fun _ => ⟨rfl, trivial, fun q hq => by omega⟩)
      have e1 : wrap64 (0 + 1) = ((1 : Nat) : Int) := by rw [wrap64_id (by omega) (by omega)]; rfl
      rw [e1]
      exact second o2 g2 h2 hg2 hf2
  unfold impl_orbits.f
  have r0' : rd_L1 [a, b] 0 = a := rfl
  refine Ev.pos (by simp) ?_
  rw [r0', la]
  refine Ev.bind (impl_still_ev n hn) ?_
  exact main _ _ (Nat.le_refl _) (OrbPre.start n a b)
/-! ### impl_MapValid -/
theorem impl_MapValid_ev (t f : List Int) : Ev (fun k => impl_MapValid.f k t f) (dec (MOK t f)) := by
  have hno : ¬ MOK t f → Ev (fun k => impl_MapValid.j0 k true t f) (dec (MOK t f)) := fun h => by
    rw [dec_f h]
    exact Ev.step (fun k => by rw [impl_MapValid.j0]) (Ev.pos rfl (Ev.const rfl))
  unfold impl_MapValid.f
  refine Ev.bindc (impl_PermValid_eq t) ?_
  refine Ev.ite (fun h1 => ?_) (fun h1 => hno (fun w => h1 (dec_t w.1)))
  refine Ev.bindc (impl_PermValid_eq f) ?_
  refine Ev.ite (fun h2 => ?_) (fun h2 => hno (fun w => h2 (dec_t w.2.1)))
  have pt := dec_iff.1 h1
  have pf := dec_iff.1 h2
  by_cases hl : t.length = f.length
  · rw [show ((t.length : Int) != (f.length : Int)) = false by simp [hl]]
    refine Ev.step (fun k => by rw [impl_MapValid.j0]) ?_
    refine Ev.neg (by simp) ?_
    obtain ⟨⟨t1, t2⟩, t3⟩ := pt
    obtain ⟨⟨f1, f2⟩, f3⟩ := pf
    have ft := f3.1
    have tt := t3.1
    rw [hl] at tt
    have key : ∀ d i, f.length - i = d → i ≤ f.length → (∀ q, q < i → fn f q ≠ q ∧ fn f (fn f q) = q) → Ev (fun k => impl_MapValid.l0 k f (f.length : Nat) (i : Nat) t f) (dec (MOK t f)) := by
      intro d
      induction d with
      | zero =>
        intro i hd hi hq
        obtain rfl : i = f.length := by omega
        refine Ev.step (fun k => by rw [impl_MapValid.l0]) ?_
        refine Ev.neg (by omega) ?_
        have ho := (orbL_isOrb tt ft)
        have hol := ho.1.1
        obtain ⟨v, v1, v2⟩ := slices_Max_zero (orbL t f) (by omega) (fun i hi => (ho.1.2 i (by omega)).1)
        refine Ev.bind (impl_orbits_ev f.length (by omega) t f tt ft) ?_
        refine Ev.bindc v1 ?_
        refine Ev.const ?_
        congr 1
        by_cases hv : v = 0
        · rw [dec_t, hv]; · rfl
          exact ⟨⟨⟨t1, t2⟩, t3⟩, ⟨⟨f1, f2⟩, f3⟩, hl, hq, fun i hi => v2.1 hv i (by omega)⟩
        · rw [dec_f, beq_eq_false_iff_ne]; · exact hv
          exact fun w => hv (v2.2 (fun i hi => w.2.2.2.2 i (by omega)))
      | succ d ih =>
        intro i hd hi hq
        have hi' : i < f.length := by omega
        have e1 := ft.fn hi'
        have e2 := ft.fn e1.2
        refine Ev.step (fun k => by rw [impl_MapValid.l0]) ?_
        rw [e1.1, e2.1, wrap64_id (x := (i : Int) + 1) (by omega) (by omega)]
        refine Ev.pos (by omega) (Ev.pos (by omega) (Ev.pos (by omega) ?_))
        refine Ev.ite (fun n1 => ?_) (fun n1 => ?_)
        · rw [dec_f (fun w => (w.2.2.2.1 i hi').1 (by omega))]; exact Ev.const rfl
        refine Ev.pos (by omega) (Ev.pos (by omega) ?_)
        refine Ev.ite (fun n2 => ?_) (fun n2 => ?_)
        · refine ih (i + 1) (by omega) (by omega) (fun q hqi => ?_)
          by_cases e : q = i
          · subst e; exact ⟨by omega, by omega⟩
          · exact hq q (by omega)
        · rw [dec_f (fun w => n2 (by have := (w.2.2.2.1 i hi').2; omega))]; exact Ev.const rfl
    exact key f.length 0 (by omega) (by omega) (fun q hq => by omega)
  · rw [show ((t.length : Int) != (f.length : Int)) = true by simp; omega]
    exact hno (fun w => hl w.2.2.1)
/-! ### impl_VoltageValid -/
theorem impl_VoltageValid_ev (t f : List Int) (k : Int) (v : List (List Int)) (hl : v.length ≤ 1048576) : Ev (fun n => impl_VoltageValid.f n t f k v) (dec (VOK t f k v)) := by
  have eL : ∀ (xs : List (List Int)) (i : Int), rd_L1 xs i = rdL xs i := fun _ _ => rfl
  have hno : ¬ VOK t f k v → Ev (fun n => impl_VoltageValid.j0 n k v true) (dec (VOK t f k v)) := fun h => by
    rw [dec_f h]
    exact Ev.step (fun n => by rw [impl_VoltageValid.j0]) (Ev.pos rfl (Ev.const rfl))
  unfold impl_VoltageValid.f
  refine Ev.bind (impl_MapValid_ev t f) ?_
  refine Ev.ite (fun h1 => ?_) (fun h1 => hno (fun w => h1 (dec_t w.1)))
  have hM := dec_iff.1 h1
  have hz := hM.size
  refine Ev.ite (fun h2 => hno (fun w => by have := w.2.1.1; omega)) (fun h2 => ?_)
  refine Ev.ite (fun h2' => hno (fun w => by have := w.2.1.2; omega)) (fun h2' => ?_)
  have hb : 0 ≤ (t.length : Int) * k ∧ (t.length : Int) * k ≤ 72 := by
    have h3 := Int.mul_le_mul (show (t.length : Int) ≤ 12 by omega) (show k ≤ 6 by omega) (by omega) (by omega)
    have h4 : 0 ≤ (t.length : Int) * k := Int.mul_nonneg (by omega) (by omega)
    omega
  rw [wrap64_id (x := (t.length : Int) * k) (by omega) (by omega)]
  refine Ev.ite (fun h3 => hno (fun w => by have := w.2.2.1; omega)) (fun h3 => ?_)
  rw [show ((f.length : Int) / 2) = ((f.length / 2 : Nat) : Int) from rfl, wrap64_id (x := ((f.length / 2 : Nat) : Int)) (by omega) (by omega)]
  by_cases h4 : v.length = f.length / 2
  · rw [show ((v.length : Int) != ((f.length / 2 : Nat) : Int)) = false by simp; omega]
    refine Ev.step (fun n => by rw [impl_VoltageValid.j0]) ?_
    refine Ev.neg (by simp) ?_
    have key : ∀ d i, v.length - i = d → i ≤ v.length → (∀ e : Nat, e < i → POK (rdL v (e : Int)) ∧ ((rdL v (e : Int)).length : Int) = k) → Ev (fun n => impl_VoltageValid.l0 n k v (v.length : Nat) (i : Nat)) (dec (VOK t f k v)) := by
      intro d
      induction d with
      | zero =>
        intro i hd hi hq
        obtain rfl : i = v.length := by omega
        refine Ev.step (fun n => by rw [impl_VoltageValid.l0]) ?_
        refine Ev.neg (by omega) ?_
        rw [dec_t]
        · exact Ev.const rfl
        · exact ⟨hM, by omega, by omega, h4, hq⟩
      | succ d ih =>
        intro i hd hi hq
        have hi' : i < v.length := by omega
        refine Ev.step (fun n => by rw [impl_VoltageValid.l0]) ?_
        rw [wrap64_id (x := (i : Int) + 1) (by omega) (by omega)]
        simp only [eL]
        refine Ev.pos (by omega) (Ev.pos (by omega) (Ev.pos (by omega) (Ev.bindc (impl_PermValid_eq _) ?_)))
        refine Ev.ite (fun q1 => ?_) (fun q1 => ?_)
        · refine Ev.ite (fun q2 => ?_) (fun q2 => ?_)
          · refine ih (i + 1) (by omega) (by omega) (fun e he => ?_)
            by_cases z : e = i
            · subst z; exact ⟨dec_iff.1 q1, q2⟩
            · exact hq e (by omega)
          · rw [dec_f (fun w => q2 (w.2.2.2.2 i hi').2)]; exact Ev.const rfl
        · rw [dec_f (fun w => q1 (dec_t (w.2.2.2.2 i hi').1))]; exact Ev.const rfl
    exact key v.length 0 (by omega) (by omega) (fun e he => by omega)
  · rw [show ((v.length : Int) != ((f.length / 2 : Nat) : Int)) = true by simp; omega]
    exact hno (fun w => h4 w.2.2.2.1)
/-! ### impl_mul -/
theorem impl_mul_ev (a b : List Int) (hn : a.length ≤ 4194304) (h : ∀ i : Nat, i < a.length → 0 ≤ rd a (i : Int) ∧ rd a (i : Int) < b.length) : Ev (fun k => impl_mul.f k a b) (mulL a b) := by
  have key : ∀ d i, a.length - i = d → i ≤ a.length → ∀ x : List Int, x.length = a.length → (∀ q : Nat, q < i → rd x (q : Int) = rd b (rd a (q : Int))) →
      Ev (fun k => impl_mul.l0 k b x a (a.length : Nat) (i : Nat)) (mulL a b) := by
    intro d
    induction d with
    | zero =>
      intro i hd hi x hx hq
      refine Ev.step (fun k => by rw [impl_mul.l0]) (Ev.neg (by omega) (Ev.const ?_))
      congr 1
      refine list_ext_rd (by rw [hx, mulL_length]) (fun j hj => ?_)
      rw [hq j (by omega), rd_mulL a b j (by omega)]
    | succ d ih =>
      intro i hd hi x hx hq
      have e1 := h i (by omega)
      refine Ev.step (fun k => by rw [impl_mul.l0]) ?_
      rw [wrap64_id (x := (i : Int) + 1) (by omega) (by omega)]
      simp only [toNat_nat]
      refine Ev.pos (by omega) (Ev.pos (by omega) (Ev.pos (by omega) (Ev.pos (by omega) (Ev.pos (by omega) (Ev.pos (by omega) ?_)))))
      refine ih (i + 1) (by omega) (by omega) _ (by simp [hx]) (fun q hqi => ?_)
      by_cases e : i = q
      · subst e; exact rd_set_self _ _ _ (by omega)
      · rw [rd_set_ne _ _ _ _ e]; exact hq q (by omega)
  unfold impl_mul.f
  refine Ev.pos (by omega) (Ev.pos (by omega) ?_)
  exact key a.length 0 (by omega) (by omega) _ (by simp) (fun q hq => by omega)
/-! ### impl_cyclesOf -/
theorem impl_cyclesOf_l1 {n : Nat} (hn : n ≤ 4194304) {p : List Int} (hp : PermL n p) {i : Nat} (hi : i < n) (hl : lstB (EF n (fn p)) i = true) (out : List (List Int)) (hout : out.length ≤ i) (r : List (List Int))
    (hr : ∀ b, SeenAt n (fn p) (i + 1) b → Ev (fun k => impl_cyclesOf.l0 k p (out ++ [cycOf (fn p) i]) b (n : Nat) (i + 1 : Nat)) r) :
    ∀ d t, per (fn p) i - t = d → t ≤ per (fn p) i → ∀ b, SeenIn n (fn p) i t b → Ev (fun k => impl_cyclesOf.l1 k p out b ((List.range t).map (fun k => (itr (fn p) k i : Int))) (itr (fn p) t i : Int) (n : Nat) (i : Nat)) r := by
  have hpm := hp.perm
  obtain ⟨q1, q2, q3, q4⟩ := per_spec hpm hi
  intro d
  induction d with
  | zero =>
    intro t hd ht b hb
    obtain rfl : t = per (fn p) i := by omega
    obtain ⟨c1, c2⟩ := hb.closed hpm hi
    have hlt := itr_lt hpm hi (per (fn p) i)
    have hbl := hb.1
    refine Ev.step (fun k => by rw [impl_cyclesOf.l1]) ?_
    rw [wrap64_id (x := (i : Int) + 1) (by omega) (by omega)]
    refine Ev.pos (by omega) (Ev.pos (by omega) (Ev.pos c1 (Ev.pos (by simp; omega) (Ev.pos (by omega) ?_))))
    exact hr b c2
  | succ d ih =>
    intro t hd ht b hb
    have hlt := itr_lt hpm hi t
    have hf := hb.fresh hpm hi hl (by omega)
    have hbl := hb.1
    have hpl := hp.1.1
    refine Ev.step (fun k => by rw [impl_cyclesOf.l1]) ?_
    refine Ev.pos (by omega) (Ev.pos (by omega) (Ev.neg (by rw [hf]; simp) (Ev.pos (by simp; omega) (Ev.pos (by omega) ?_))))
    rw [(hp.1.fn hlt).1, ← cycOf_take]
    exact ih (t + 1) (by omega) (by omega) _ (hb.next hpm hi)
theorem impl_cyclesOf_ev (n : Nat) (hn : n ≤ 4194304) (p : List Int) (hp : PermL n p) : Ev (fun k => impl_cyclesOf.f k p) (cycL n (fn p)) := by
  have hpm := hp.perm
  have hpl := hp.1.1
  have key : ∀ d i, n - i = d → i ≤ n → ∀ b, SeenAt n (fn p) i b → Ev (fun k => impl_cyclesOf.l0 k p (cycUp n (fn p) i) b (n : Nat) (i : Nat)) (cycL n (fn p)) := by
    intro d
    induction d with
    | zero =>
      intro i hd hi b hb
      obtain rfl : i = n := by omega
      refine Ev.step (fun k => by rw [impl_cyclesOf.l0]) ?_
      exact Ev.neg (by omega) (Ev.const rfl)
    | succ d ih =>
      intro i hd hi b hb
      have hi' : i < n := by omega
      have hbl := hb.1
      have hls := hb.least hi'
      refine Ev.step (fun k => by rw [impl_cyclesOf.l0]) (Ev.pos (by omega) ?_)
      cases q : rdOf false b (i : Int) with
      | true =>
        rw [q] at hls
        refine Ev.step (fun k => by rw [impl_cyclesOf.l1]) ?_
        rw [wrap64_id (x := (i : Int) + 1) (by omega) (by omega)]
        refine Ev.pos (by omega) (Ev.pos (by omega) (Ev.pos q (Ev.neg (by simp) ?_)))
        have := ih (i + 1) (by omega) (by omega) b (hb.skip hi' q)
        rw [cycUp_neg hls] at this
        exact this
      | false =>
        rw [q] at hls
        refine impl_cyclesOf_l1 hn hp hi' hls (cycUp n (fn p) i) (cycUp_length_le _ _ _) _ (fun b' hb' => ?_) (per (fn p) i) 0 (by omega) (by omega) b hb.into
        have := ih (i + 1) (by omega) (by omega) b' hb'
        rw [cycUp_pos hls] at this
        exact this
  unfold impl_cyclesOf.f
  rw [hpl]
  refine Ev.pos (by omega) (Ev.pos (by omega) ?_)
  exact key n 0 (by omega) (by omega) _ (SeenAt.start n _)
/-! ### impl_vertexOf -/
theorem impl_vertexOf_l1 {n : Nat} (hn : n ≤ 4194304) {t : List Int} (ht : PermL n t) {i : Nat} (hi : i < cyc n (fn t)) (r : List Int)
    (hr : ∀ o : List Int, o.length = n → (∀ x : Nat, x < n → vtx n t x < i + 1 → rd o (x : Int) = (vtx n t x : Int)) → Ev (fun k => impl_vertexOf.l0 k o (cycL n (fn t)) ((cycL n (fn t)).length : Int) ((i + 1 : Nat) : Int)) r) :
    ∀ d j, (rdL (cycL n (fn t)) (i : Int)).length - j = d → j ≤ (rdL (cycL n (fn t)) (i : Int)).length → ∀ o : List Int, o.length = n → (∀ x : Nat, x < n → vtx n t x < i → rd o (x : Int) = (vtx n t x : Int)) → (∀ q : Nat, q < j → rd o (rd (rdL (cycL n (fn t)) (i : Int)) (q : Int)) = (i : Int)) →
      Ev (fun k => impl_vertexOf.l1 k o (i : Nat) (cycL n (fn t)) ((cycL n (fn t)).length : Int) (i : Nat) (rdL (cycL n (fn t)) (i : Int)) ((rdL (cycL n (fn t)) (i : Int)).length : Int) (j : Nat)) r := by
  have hcl := cycL_length n (fn t)
  have hF : Face n (rdL (cycL n (fn t)) (i : Int)) := cycL_face ht.perm (by rw [hcl]; exact hi)
  have hcy := cyc_le n (fn t)
  have hH := fun (x : Nat) (hx : x < n) => holds_iff ht hi hx
  generalize rdL (cycL n (fn t)) (i : Int) = face at hF hH
  intro d
  induction d with
  | zero =>
    intro j hd hj o ho h1 h2
    obtain rfl : j = face.length := by omega
    refine Ev.step (fun k => by rw [impl_vertexOf.l1]) ?_
    refine Ev.neg (by omega) ?_
    rw [wrap64_id (x := (i : Int) + 1) (by omega) (by omega)]
    refine hr o ho (fun x hx hv => ?_)
    by_cases w : vtx n t x < i
    · exact h1 x hx w
    · have e : vtx n t x = i := by omega
      obtain ⟨q, q1, q2⟩ := (hH x hx).2 e
      rw [e, ← h2 q q1, q2]
  | succ d ih =>
    intro j hd hj o ho h1 h2
    have hj' : j < face.length := by omega
    obtain ⟨a1, a2⟩ := hF.fn hj'
    have hlen := hF.1
    refine Ev.step (fun k => by rw [impl_vertexOf.l1]) ?_
    rw [a1, wrap64_id (x := (j : Int) + 1) (by omega) (by omega)]
    simp only [Int.toNat_natCast]
    refine Ev.pos (by omega) (Ev.pos (by omega) (Ev.pos (by omega) (Ev.pos (by omega) (Ev.pos (by omega) ?_))))
    have hvx : vtx n t (fn face j) = i := (hH _ a2).1 ⟨j, hj', a1⟩
    refine ih (j + 1) (by omega) (by omega) _ (by simp [ho]) (fun x hx hv => ?_) (fun q hq => ?_)
    · have hne : fn face j ≠ x := fun w => by rw [w] at hvx; omega
      rw [rd_set_ne _ _ _ _ hne]; exact h1 x hx hv
    · obtain ⟨b1, b2⟩ := hF.fn (show q < face.length by omega)
      rw [b1]
      by_cases w : fn face j = fn face q
      · rw [w, rd_set_self _ _ _ (by omega)]
      · rw [rd_set_ne _ _ _ _ w]
        have hqj : q < j := by
          by_cases z : q = j
          · subst z; exact absurd rfl w
          · omega
        have := h2 q hqj
        rwa [b1] at this
theorem impl_vertexOf_ev {n : Nat} (hn : n ≤ 4194304) {t f : List Int} (ht : PermL n t) : Ev (fun k => impl_vertexOf.f k t f) (vtxL n t) := by
  have eL : ∀ (xs : List (List Int)) (i : Int), rd_L1 xs i = rdL xs i := fun _ _ => rfl
  have hl := ht.1.1
  have hcl := cycL_length n (fn t)
  have hcy := cyc_le n (fn t)
  have key : ∀ d i, cyc n (fn t) - i = d → i ≤ cyc n (fn t) → ∀ o : List Int, o.length = n → (∀ x : Nat, x < n → vtx n t x < i → rd o (x : Int) = (vtx n t x : Int)) → Ev (fun k => impl_vertexOf.l0 k o (cycL n (fn t)) ((cycL n (fn t)).length : Int) (i : Nat)) (vtxL n t) := by
    intro d
    induction d with
    | zero =>
      intro i hd hi o ho h1
      refine Ev.step (fun k => by rw [impl_vertexOf.l0]) ?_
      refine Ev.neg (by omega) (Ev.const ?_)
      congr 1
      refine list_ext_rd (by rw [ho, vtxL_length]) (fun x hx => ?_)
      have := vtx_lt t (show x < n by omega)
      rw [h1 x (by omega) (by omega), rd_vtxL _ _ _ (by omega)]
    | succ d ih =>
      intro i hd hi o ho h1
      refine Ev.step (fun k => by rw [impl_vertexOf.l0]) ?_
      refine Ev.pos (by omega) (Ev.pos (by omega) (Ev.pos (by omega) ?_))
      simp only [eL]
      exact impl_vertexOf_l1 hn ht (show i < cyc n (fn t) by omega) _ (fun o' ho' h' => ih (i + 1) (by omega) (by omega) o' ho' h') _ 0 rfl (by omega) o ho h1 (fun q hq => absurd hq (by omega))
  unfold impl_vertexOf.f
  rw [hl]
  refine Ev.pos (by omega) (Ev.pos (by omega) (Ev.bind (impl_cyclesOf_ev n hn t ht) ?_))
  simp only [Int.toNat_natCast]
  exact key _ 0 rfl (by omega) _ (by simp) (fun x hx hv => absurd hv (by omega))
/-! ### impl_back -/
theorem back_ext' {n : Nat} {p x : List Int} (hp : PermL n p) (hx : x.length = n) (hq : ∀ q : Nat, q < n → rd x (fn p q : Int) = (q : Int)) : x = backL p := by
  have h := hp.perm
  refine list_ext_rd (by rw [hx, backL_length, hp.1.1]) (fun j hj => ?_)
  rw [rd_backL p j (by rw [hp.1.1]; omega), hp.1.1]
  have := hq (bck n (fn p) j) (h.gl j (by omega))
  rw [h.fg j (by omega)] at this
  exact this
theorem back_set' {n : Nat} {p x : List Int} (hp : PermL n p) (hx : x.length = n) {i : Nat} (hi : i < n) (hq : ∀ q : Nat, q < i → rd x (fn p q : Int) = (q : Int)) : ∀ q : Nat, q < i + 1 → rd (x.set (fn p i) (i : Int)) (fn p q : Int) = (q : Int) := by
  intro q hqi
  by_cases e : q = i
  · subst e; exact rd_set_self _ _ _ (by rw [hx]; exact (hp.1.fn hi).2)
  · rw [rd_set_ne _ _ _ _ (fun w => e (hp.2 q i (by omega) hi w.symm))]; exact hq q (by omega)
theorem impl_back_ev (n : Nat) (hn : n ≤ 4194304) (p : List Int) (hp : PermL n p) : Ev (fun k => impl_back.f k p) (backL p) := by
  have hl := hp.1.1
  have key : ∀ d i, n - i = d → i ≤ n → ∀ x : List Int, x.length = n → (∀ q : Nat, q < i → rd x (fn p q : Int) = (q : Int)) → Ev (fun k => impl_back.l0 k x p (n : Nat) (i : Nat)) (backL p) := by
    intro d
    induction d with
    | zero =>
      intro i hd hi x hx hq
      refine Ev.step (fun k => by rw [impl_back.l0]) ?_
      refine Ev.neg (by omega) (Ev.const ?_)
      rw [back_ext' hp hx (fun q hq' => hq q (by omega))]
    | succ d ih =>
      intro i hd hi x hx hq
      have e1 := hp.1.fn (show i < n by omega)
      refine Ev.step (fun k => by rw [impl_back.l0]) ?_
      rw [e1.1, wrap64_id (x := (i : Int) + 1) (by omega) (by omega)]
      simp only [toNat_nat]
      refine Ev.pos (by omega) (Ev.pos (by omega) (Ev.pos (by omega) (Ev.pos (by omega) (Ev.pos (by omega) ?_))))
      exact ih (i + 1) (by omega) (by omega) _ (by simp [hx]) (back_set' hp hx (by omega) hq)
  unfold impl_back.f
  rw [hl]
  refine Ev.pos (by omega) (Ev.pos (by omega) ?_)
  exact key n 0 (by omega) (by omega) _ (by simp) (fun q hq => by omega)
/-! ### slices_Clone_int_int -/
theorem slices_Clone_eq (l : List Int) (h : l.length ≤ 1048576) : slices_Clone_int_int.f l = some l := if_pos h
/-! ### impl_edgesOf -/
def lowsL (f : List Int) (i : Nat) : List Int := ((List.range i).filter (lowD f)).map (fun d : Nat => (d : Int))
theorem lowsL_length (f : List Int) (i : Nat) : (lowsL f i).length = cntP (lowD f) i := by
  unfold lowsL; rw [List.length_map, filter_cntP]
theorem lowsL_at (f : List Int) : ∀ (i e : Nat), e < cntP (lowD f) i → ∃ d : Nat, rd (lowsL f i) (e : Int) = (d : Int) ∧ d < i ∧ lowD f d = true ∧ cntP (lowD f) d = e
  | 0, e, h => by simp [cntP] at h
  | i + 1, e, h => by
    have hl := lowsL_length f i
    by_cases q : lowD f i = true
    · have hs : lowsL f (i + 1) = lowsL f i ++ [(i : Int)] := by
        unfold lowsL; rw [List.range_succ, List.filter_append, List.map_append]; simp [q]
      have hc : cntP (lowD f) (i + 1) = cntP (lowD f) i + 1 := by simp only [cntP]; rw [if_pos q]
      by_cases z : e < cntP (lowD f) i
      · obtain ⟨d, d1, d2, d3, d4⟩ := lowsL_at f i e z
        refine ⟨d, ?_, by omega, d3, d4⟩
        rw [hs, rd_nat _ _ (by rw [List.length_append]; omega), List.getElem_append_left (by omega), ← rd_nat _ _ (by omega), d1]
      · refine ⟨i, ?_, by omega, q, by omega⟩
        rw [hs, rd_nat _ _ (by rw [List.length_append, hl]; simp; omega), List.getElem_append_right (by omega)]
        simp
    · have hs : lowsL f (i + 1) = lowsL f i := by
        unfold lowsL; rw [List.range_succ, List.filter_append, List.map_append]; simp [q]
      have hc : cntP (lowD f) (i + 1) = cntP (lowD f) i := by simp only [cntP]; rw [if_neg q]; rfl
      obtain ⟨d, d1, d2, d3, d4⟩ := lowsL_at f i e (by omega)
      exact ⟨d, by rw [hs]; exact d1, by omega, d3, d4⟩
theorem impl_edgesOf_ev (n : Nat) (hn : n ≤ 4194304) (t f : List Int) (hf : Pts n f) : Ev (fun k => impl_edgesOf.f k t f) (lowsL f n) := by
  have hl := hf.1
  have key : ∀ d i, n - i = d → i ≤ n → Ev (fun k => impl_edgesOf.l0 k (lowsL f i) f (n : Nat) (i : Nat)) (lowsL f n) := by
    intro d
    induction d with
    | zero =>
      intro i hd hi
      obtain rfl : i = n := by omega
      refine Ev.step (fun k => by rw [impl_edgesOf.l0]) ?_
      exact Ev.neg (by omega) (Ev.const rfl)
    | succ d ih =>
      intro i hd hi
      have e1 := hf.fn (show i < n by omega)
      have hc := cntP_le (lowD f) i
      have hll := lowsL_length f i
      refine Ev.step (fun k => by rw [impl_edgesOf.l0]) ?_
      rw [e1.1, wrap64_id (x := (i : Int) + 1) (by omega) (by omega)]
      refine Ev.pos (by omega) (Ev.pos (by omega) (Ev.pos (by omega) ?_))
      have := ih (i + 1) (by omega) (by omega)
      refine Ev.ite (fun q => ?_) (fun q => ?_)
      · refine Ev.pos (by omega) ?_
        have hs : lowsL f (i + 1) = lowsL f i ++ [(i : Int)] := by
          have : lowD f i = true := decide_eq_true (by omega)
          unfold lowsL; rw [List.range_succ, List.filter_append, List.map_append]; simp [this]
        rw [hs] at this
        exact this
      · have hs : lowsL f (i + 1) = lowsL f i := by
          have : lowD f i = false := decide_eq_false (by omega)
          unfold lowsL; rw [List.range_succ, List.filter_append, List.map_append]; simp [this]
        rw [hs] at this
        exact this
  unfold impl_edgesOf.f
  rw [hl]
  exact key n 0 (by omega) (by omega)
/-! ### impl_conjAt -/
theorem impl_conjAt_ev {n κ : Nat} {t f : List Int} {v : List (List Int)} (h : VN n κ t f v) {b : List Int} (hb : PermL κ b) (u : Nat) : Ev (fun k => impl_conjAt.f k t f v (u : Nat) b) (conjV n t f v u b) := by
  have eL : ∀ (xs : List (List Int)) (i : Int), rd_L1 xs i = rdL xs i := fun _ _ => rfl
  have hn := h.n1
  have hκ := h.k1
  have hvl := h.vl
  have hfl := h.fp.1.1
  have hL := lowsL_length f n
  have hh := h.pr.half
  have hvx := vtxL_length n t
  have mul : ∀ {x y : List Int}, PermL κ x → PermL κ y → Ev (fun k => impl_mul.f k x y) (mulL x y) := fun {x y} hx hy => impl_mul_ev x y (by have := hx.1.1; omega) (fun i hi => by
    have := hx.1.2 i (by have := hx.1.1; omega)
    have := hy.1.1; omega)
  have key : ∀ d e, v.length - e = d → e ≤ v.length → Ev (fun k => impl_conjAt.l0 k v (u : Nat) b (vtxL n t) ((List.range e).map (conjE n t f v u b)) (lowsL f n) ((lowsL f n).length : Int) (e : Nat) t f) (conjV n t f v u b) := by
    intro d
    induction d with
    | zero =>
      intro e hd he
      obtain rfl : e = v.length := by omega
      refine Ev.step (fun k => by rw [impl_conjAt.l0]) ?_
      exact Ev.neg (by omega) (Ev.const rfl)
    | succ d ih =>
      intro e hd he
      have he' : e < v.length := by omega
      obtain ⟨a, a1, a2, a3, a4⟩ := lowsL_at f n e (by omega)
      have hld : ldart n f e = a := by
        obtain ⟨s1, s2, s3⟩ := ldart_spec h.pr (show e < n / 2 by omega)
        exact low_unique s2 a3 (by rw [s3, a4])
      have fa := h.fp.1.fn a2
      have hx := h.vp e he'
      have hxl := hx.1.1
      have hk := backL_perm hb
      have nx := ih (e + 1) (by omega) (by omega)
      rw [List.range_succ, List.map_append, List.map_cons, List.map_nil] at nx
      have hE : conjE n t f v u b e = if vtx n t (fn f a) = u then mulL (if vtx n t a = u then mulL (backL b) (rdL v (e : Int)) else rdL v (e : Int)) b else (if vtx n t a = u then mulL (backL b) (rdL v (e : Int)) else rdL v (e : Int)) := by unfold conjE; rw [hld]
      have olen : ((List.range e).map (conjE n t f v u b)).length = e := by simp
      refine Ev.step (fun k => by rw [impl_conjAt.l0]) ?_
      refine Ev.pos (by omega) (Ev.pos (by omega) (Ev.pos (by omega) (Ev.pos (by omega) ?_)))
      simp only [eL]
      refine Ev.bindc (slices_Clone_eq _ (by omega)) ?_
      rw [a1, rd_vtxL n t a a2, fa.1, rd_vtxL n t _ fa.2, wrap64_id (x := (e : Int) + 1) (by omega) (by omega)]
      refine Ev.pos (by omega) (Ev.pos (by omega) ?_)
      refine Ev.ite (fun q => ?_) (fun q => ?_)
      · have q' : vtx n t a = u := by omega
        rw [if_pos q'] at hE
        refine Ev.bind (impl_back_ev κ (by omega) b hb) (Ev.bind (mul hk hx) ?_)
        refine Ev.pos (by omega) (Ev.pos (by omega) (Ev.pos (by omega) (Ev.ite (fun z => ?_) (fun z => ?_))))
        · have z' : vtx n t (fn f a) = u := by omega
          rw [if_pos z'] at hE
          rw [hE] at nx
          exact Ev.bind (mul (mulL_perm hk hx) hb) (Ev.pos (by omega) nx)
        · have z' : ¬ vtx n t (fn f a) = u := by omega
          rw [if_neg z'] at hE
          rw [hE] at nx
          exact Ev.pos (by omega) nx
      · have q' : ¬ vtx n t a = u := by omega
        rw [if_neg q'] at hE
        refine Ev.pos (by omega) (Ev.pos (by omega) (Ev.pos (by omega) (Ev.ite (fun z => ?_) (fun z => ?_))))
        · have z' : vtx n t (fn f a) = u := by omega
          rw [if_pos z'] at hE
          rw [hE] at nx
          exact Ev.bind (mul hx hb) (Ev.pos (by omega) nx)
        · have z' : ¬ vtx n t (fn f a) = u := by omega
          rw [if_neg z'] at hE
          rw [hE] at nx
          exact Ev.pos (by omega) nx
  unfold impl_conjAt.f
  refine Ev.bind (impl_vertexOf_ev (by omega) h.tp) (Ev.bind (impl_edgesOf_ev n (by omega) t f h.fp.1) ?_)
  exact key _ 0 rfl (by omega)
/-! ### impl_CoverConj -/
theorem impl_CoverConj_ev (t f : List Int) (k : Int) (v : List (List Int)) (d : Int) (b : List Int) (hv : v.length ≤ 1048576) : Ev (fun n => impl_CoverConj.f n t f k v d b) (ccV t f k v d b) := by
  have hno : ¬ (VOK t f k v ∧ (0 ≤ d ∧ d < (t.length : Int)) ∧ POK b ∧ (b.length : Int) = k) → Ev (fun n => impl_CoverConj.j0 n v d b true t f) (ccV t f k v d b) := fun h => by
    unfold ccV; rw [if_neg (fun w => h (dec_iff.1 w))]
    refine Ev.step (fun n => by rw [impl_CoverConj.j0]) ?_
    exact Ev.pos rfl (Ev.const rfl)
  unfold impl_CoverConj.f
  refine Ev.bind (impl_VoltageValid_ev t f k v hv) ?_
  refine Ev.ite (fun h1 => ?_) (fun h1 => hno (fun w => h1 (dec_t w.1)))
  have hV := dec_iff.1 h1
  obtain ⟨κ, rfl, hN⟩ := hV.vn
  have hM := hV.1
  have hz := hM.size
  refine Ev.ite (fun h2 => hno (fun w => by have := w.2.1.1; omega)) (fun h2 => ?_)
  refine Ev.ite (fun h5 => hno (fun w => by have := w.2.1.2; omega)) (fun h5 => ?_)
  refine Ev.bindc (impl_PermValid_eq b) ?_
  refine Ev.ite (fun h3 => ?_) (fun h3 => hno (fun w => h3 (dec_t w.2.2.1)))
  have hB := dec_iff.1 h3
  by_cases h4 : (b.length : Int) = κ
  · have eV : ccV t f κ v d b = (conjV t.length t f v (vtx t.length t d.toNat) b, true) := by unfold ccV; rw [if_pos (dec_t ⟨hV, by omega, hB, h4⟩)]
    rw [eV, show ((b.length : Int) != (κ : Int)) = false by simp [h4]]
    refine Ev.step (fun n => by rw [impl_CoverConj.j0]) ?_
    refine Ev.neg (by simp) ?_
    obtain ⟨x, rfl⟩ := Int.eq_ofNat_of_zero_le (show 0 ≤ d by omega)
    have hx : x < t.length := by omega
    have hvx := vtxL_length t.length t
    have hbp := hB.2
    rw [show b.length = κ by omega] at hbp
    refine Ev.bind (impl_vertexOf_ev (by omega) hN.tp) (Ev.pos (by omega) (Ev.pos (by omega) ?_))
    rw [rd_vtxL _ _ _ hx]
    exact Ev.bind (impl_conjAt_ev hN hbp _) (Ev.const rfl)
  · rw [show ((b.length : Int) != (κ : Int)) = true by simpa using h4]
    exact hno (fun w => h4 w.2.2.2)
/-! ### The law -/
def PureT : Prop := ∀ (l0_0 l0_1 : List Int) (a1 : Int) (l2 : List (List Int)) (a3 : Int) (l4 : List Int), l0_0.length ≤ 9223372036854775807 → l0_1.length ≤ 9223372036854775807 → l2.length ≤ 9223372036854775807 → (∀ x ∈ l2, x.length ≤ 9223372036854775807) → l4.length ≤ 9223372036854775807 → ∃ k, laws_FnExactCoverConj.f k l0_0 l0_1 a1 l2 a3 l4 = some true
theorem FnExactCoverConj : PureT := by
  intro t f k v e d ht hf hv hx hd
  refine Ev.rounds ?_
  unfold laws_FnExactCoverConj.f
  refine Ev.ite (fun _ => Ev.const rfl) (fun hd0 => ?_)
  have hd' : d.length ≤ 1048576 := by omega
  obtain ⟨a, a1, a2⟩ := laws_szMap_eq t f ht hf
  refine Ev.bindc a1 ?_
  rcases a2 with a2 | ⟨a2, a3, ht', hf'⟩
  · exact Ev.pos a2 (Ev.const rfl)
  refine Ev.neg (by omega) ?_
  obtain ⟨b, b1, b2⟩ := laws_szIntSS_ev v a a2 a3 hv hx
  refine Ev.bind b1 ?_
  rcases b2 with b2 | ⟨b2, b3, hS⟩
  · exact Ev.pos b2 (Ev.const rfl)
  refine Ev.neg (by omega) ?_
  have hg := impl_CoverConj_ev t f k v e d hS.1
  have hs := spec_CoverConj_ev t f k v e d ht' hf' hS hd'
  have hW := ccV_small t f k v e d
  generalize ccV t f k v e d = V at *
  have hT := hW.tot
  have hT2 := hS.tot
  have heq := laws_eqIntSS_same V.1 hW
  have heqd := laws_eqIntS_ev d d (by omega)
  rw [decide_eq_true rfl] at heqd
  have hm := laws_markIntSS_evc V.1 1 (by omega) (by omega)
  have hh := laws_heldIntSS_ev V.1 1 (by omega) (by omega) hW.1
  refine Ev.bind (laws_toMap_ev t f ht' hf') ?_
  refine Ev.bind (laws_toIntSS_ev v hS) ?_
  refine Ev.bind (laws_toIntS_ev d hd') ?_
  refine Ev.bind hs ?_
  refine Ev.bind (laws_toMap_ev t f ht' hf') ?_
  refine Ev.bind (laws_toIntSS_ev v hS) ?_
  refine Ev.bind (laws_toIntS_ev d hd') ?_
  refine Ev.bind hg ?_
  refine Ev.bind heq (Ev.pos rfl ?_)
  refine Ev.step (fun n => by rw [laws_FnExactCoverConj.j0]) (Ev.neg (by simp) ?_)
  refine Ev.bind (laws_toMap_ev t f ht' hf') ?_
  refine Ev.bind (laws_eqMap_same t f ht' hf') (Ev.pos rfl ?_)
  refine Ev.bind (laws_toIntSS_ev v hS) ?_
  refine Ev.bind (laws_eqIntSS_same v hS) (Ev.pos rfl ?_)
  refine Ev.bind (laws_toIntS_ev d hd') ?_
  refine Ev.bind heqd (Ev.pos rfl ?_)
  refine Ev.bind (laws_markMap_ev t f 1 (by omega) (by omega) ht' hf') ?_
  refine Ev.bind (laws_markIntSS_evc v (1 + (t.length : Int) + (f.length : Int)) (by omega) (by omega)) ?_
  refine Ev.bind (laws_markIntS_ev d (1 + (t.length : Int) + (f.length : Int) + (totL v : Int)) (by omega) (by omega)) ?_
  refine Ev.neg (by omega) ?_
  refine Ev.bind heq (Ev.pos rfl ?_)
  refine Ev.step (fun n => by rw [laws_FnExactCoverConj.j1]) (Ev.neg (by simp) ?_)
  refine Ev.bind hm ?_
  refine Ev.bind hh ?_
  refine Ev.neg (by omega) ?_
  refine Ev.pos rfl ?_
  refine Ev.bind (laws_toMap_ev t f ht' hf') ?_
  refine Ev.bind (laws_toIntSS_ev v hS) ?_
  refine Ev.bind (laws_toIntS_ev d hd') ?_
  refine Ev.bind hg ?_
  refine Ev.bind heq (Ev.pos rfl ?_)
  refine Ev.step (fun n => by rw [laws_FnExactCoverConj.j2]) (Ev.neg (by simp) ?_)
  refine Ev.bind hh ?_
  refine Ev.neg (by omega) ?_
  exact Ev.pos rfl (Ev.const rfl)

end Go.Proofs.Ytmcgkckdnelcdaa.Pure
