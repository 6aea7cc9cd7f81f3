/- The law FnExactCoverDeck holds for every input. -/
import Derived.Test.YtmcgkckdnelcdaaPFnExactCoverDeckx8
import Derived.Test.YtmcgkckdnelcdaaQFnExactCoverDeck
set_option linter.unusedVariables false
set_option linter.unusedSimpArgs false
namespace Go.Proofs.Ytmcgkckdnelcdaa.Pure
open Go.RowKit Go.Proofs.Ytmcgkckdnelcdaa.PFnExactCoverDeck Go.Proofs.YtmcgkckdnelcdaaW.PrintWords Go.Proofs.YtmcgkckdnelcdaaW.PrintLast Go.Proofs.Ytmcgkckdnelcdaa.M

/-! ### laws_szIntS -/
theorem laws_szIntS_eq (l : List Int) (a : Int) (h0 : 0 ≤ a) (h1 : a ≤ 1048576) (hl : l.length ≤ 9223372036854775807) : ∃ t, laws_szIntS.f l a = some t ∧ (t < 0 ∨ (0 ≤ t ∧ t = a - l.length)) := by
  unfold laws_szIntS.f
  rw [wrap64_id (by omega) (by omega)]
  by_cases h : a - (l.length : Int) < 0
  · rw [if_pos h]; exact ⟨_, rfl, .inl (by omega)⟩
  · rw [if_neg h]; exact ⟨_, rfl, .inr ⟨by omega, rfl⟩⟩
/-! ### laws_szMap -/
theorem laws_szMap_eq (l m : List Int) (hl : l.length ≤ 9223372036854775807) (hm : m.length ≤ 9223372036854775807) : ∃ t, laws_szMap.f l m 1048576 = some t ∧ (t < 0 ∨ (0 ≤ t ∧ t ≤ 1048576 ∧ l.length ≤ 1048576 ∧ m.length ≤ 1048576)) := by
  unfold laws_szMap.f
  obtain ⟨a, a1, a2⟩ := laws_szIntS_eq l 1048576 (by omega) (by omega) hl
  rw [a1]
  simp only [Option.bind_some]
  rcases a2 with a2 | ⟨a2, a3⟩
  · rw [if_pos a2]; exact ⟨_, rfl, .inl (by omega)⟩
  · rw [if_neg (by omega)]
    obtain ⟨b, b1, b2⟩ := laws_szIntS_eq m a (by omega) (by omega) hm
    rw [b1]
    simp only [Option.bind_some]
    rcases b2 with b2 | ⟨b2, b3⟩
    · rw [if_pos b2]; exact ⟨_, rfl, .inl (by omega)⟩
    · rw [if_neg (by omega)]; exact ⟨_, rfl, .inr ⟨by omega, by omega, by omega, by omega⟩⟩
/-! ### laws_szIntSS -/
theorem laws_szIntSS_ev (l : List (List Int)) (a : Int) (h0 : 0 ≤ a) (h1 : a ≤ 1048576) (hl : l.length ≤ 9223372036854775807) (hx : ∀ x ∈ l, x.length ≤ 9223372036854775807) : ∃ t, Ev (fun k => laws_szIntSS.f k l a) t ∧ (t < 0 ∨ (0 ≤ t ∧ t ≤ 1048576 ∧ Small l)) := by
  have eL : ∀ (xs : List (List Int)) (i : Int), rd_L1 xs i = rdL xs i := fun _ _ => rfl
  have key : ∀ d i, l.length - i = d → i ≤ l.length → ∀ b : Int, 0 ≤ b → b ≤ 1048576 → l.length ≤ 1048576 → (∀ q : Nat, q < i → (rdL l (q : Int)).length ≤ 1048576) → ∃ t, Ev (fun k => laws_szIntSS.l0 k l b (i : Nat)) t ∧ (t < 0 ∨ (0 ≤ t ∧ t ≤ 1048576 ∧ Small l)) := by
    intro d
    induction d with
    | zero =>
      intro i hd hi b hb hb1 hll hq
      obtain rfl : i = l.length := by omega
      refine ⟨b, ?_, .inr ⟨hb, hb1, hll, hq⟩⟩
      refine Ev.step (fun k => by rw [laws_szIntSS.l0]) ?_
      exact Ev.neg (by omega) (Ev.const rfl)
    | succ d ih =>
      intro i hd hi b hb hb1 hll hq
      have hi' : i < l.length := by omega
      have hmem : rdL l (i : Int) ∈ l := by rw [rdL_nat l i hi']; exact List.getElem_mem hi'
      obtain ⟨c, c1, c2⟩ := laws_szIntS_eq (rdL l (i : Int)) b hb hb1 (hx _ hmem)
      rcases c2 with c2 | ⟨c2, c3⟩
      · refine ⟨-1, ?_, .inl (by omega)⟩
        refine Ev.step (fun k => by rw [laws_szIntSS.l0]) ?_
        refine Ev.pos (by omega) (Ev.pos (by omega) (Ev.bindc (by rw [eL]; exact c1) ?_))
        exact Ev.pos c2 (Ev.const rfl)
      · obtain ⟨t, t1, t2⟩ := ih (i + 1) (by omega) (by omega) c c2 (by omega) hll (fun q hqi => by
          by_cases e : q = i
          · subst e; omega
          · exact hq q (by omega))
        refine ⟨t, ?_, t2⟩
        refine Ev.step (fun k => by rw [laws_szIntSS.l0]) ?_
        refine Ev.pos (by omega) (Ev.pos (by omega) (Ev.bindc (by rw [eL]; exact c1) ?_))
        refine Ev.neg (by omega) ?_
        rw [wrap64_id (by omega) (by omega)]
        exact t1
  unfold laws_szIntSS.f
  rw [wrap64_id (by omega) (by omega)]
  by_cases h : a - (l.length : Int) < 0
  · exact ⟨-1, Ev.pos h (Ev.const rfl), .inl (by omega)⟩
  · obtain ⟨t, t1, t2⟩ := key l.length 0 (by omega) (by omega) (a - l.length) (by omega) (by omega) (by omega) (fun q hq => by omega)
    exact ⟨t, Ev.neg h t1, t2⟩
/-! ### laws_toIntS -/
theorem laws_toIntS_ev (l : List Int) (hl : l.length ≤ 1048576) : Ev (fun k => laws_toIntS.f k l) l := by
  have key : ∀ d i, l.length - i = d → i ≤ l.length → ∀ x : List Int, x.length = l.length → (∀ q : Nat, q < i → rd x (q : Int) = rd l (q : Int)) → Ev (fun k => laws_toIntS.l0 k l x (i : Nat)) l := by
    intro d
    induction d with
    | zero =>
      intro i hd hi x hx hq
      refine Ev.step (fun k => by rw [laws_toIntS.l0]) ?_
      refine Ev.neg (by omega) (Ev.const ?_)
      congr 1
      exact list_ext_rd hx (fun q hq' => hq q (by omega))
    | succ d ih =>
      intro i hd hi x hx hq
      refine Ev.step (fun k => by rw [laws_toIntS.l0]) ?_
      rw [wrap64_id (x := (i : Int) + 1) (by omega) (by omega)]
      simp only [toNat_nat]
      refine Ev.pos (by omega) (Ev.pos (by omega) (Ev.pos (by omega) ?_))
      refine ih (i + 1) (by omega) (by omega) _ (by simp [hx]) (fun q hqi => ?_)
      by_cases e : i = q
      · subst e; exact rd_set_self _ _ _ (by omega)
      · rw [rd_set_ne _ _ _ _ e]; exact hq q (by omega)
  unfold laws_toIntS.f
  refine Ev.pos (by omega) (Ev.pos (by omega) ?_)
  exact key l.length 0 (by omega) (by omega) _ (by simp) (fun q hq => by omega)
/-! ### laws_toMap -/
theorem laws_toMap_ev (l m : List Int) (hl : l.length ≤ 1048576) (hm : m.length ≤ 1048576) : Ev (fun k => laws_toMap.f k l m) (l, m) := by
  unfold laws_toMap.f
  exact Ev.bind (laws_toIntS_ev l hl) (Ev.bind (laws_toIntS_ev m hm) (Ev.const rfl))
/-! ### laws_toIntSS -/
theorem laws_toIntSS_ev (l : List (List Int)) (h : Small l) : Ev (fun k => laws_toIntSS.f k l) l := by
  have eL : ∀ (xs : List (List Int)) (i : Int), rd_L1 xs i = rdL xs i := fun _ _ => rfl
  obtain ⟨hl, hs⟩ := h
  have key : ∀ d i, l.length - i = d → i ≤ l.length → ∀ x : List (List Int), x.length = l.length → (∀ q : Nat, q < i → rdL x (q : Int) = rdL l (q : Int)) → Ev (fun k => laws_toIntSS.l0 k l x (i : Nat)) l := by
    intro d
    induction d with
    | zero =>
      intro i hd hi x hx hq
      refine Ev.step (fun k => by rw [laws_toIntSS.l0]) ?_
      refine Ev.neg (by omega) (Ev.const ?_)
      congr 1
      exact listL_ext hx (fun q hq' => hq q (by omega))
    | succ d ih =>
      intro i hd hi x hx hq
      refine Ev.step (fun k => by rw [laws_toIntSS.l0]) ?_
      rw [wrap64_id (x := (i : Int) + 1) (by omega) (by omega)]
      simp only [toNat_nat, eL]
      refine Ev.pos (by omega) (Ev.pos (by omega) (Ev.bind (laws_toIntS_ev _ (hs i (by omega))) (Ev.pos (by omega) ?_)))
      refine ih (i + 1) (by omega) (by omega) _ (by simp [hx]) (fun q hqi => ?_)
      by_cases e : i = q
      · subst e; exact rdL_set_self _ _ _ (by omega)
      · rw [rdL_set_ne _ _ _ _ e]; exact hq q (by omega)
  unfold laws_toIntSS.f
  refine Ev.pos (by omega) (Ev.pos (by omega) ?_)
  exact key l.length 0 (by omega) (by omega) _ (by simp) (fun q hq => by omega)
/-! ### laws_eqIntS -/
theorem laws_eqIntS_ev (l m : List Int) (hl : l.length ≤ 4611686018427387904) : Ev (fun k => laws_eqIntS.f k l m) (decide (l = m)) := by
  unfold laws_eqIntS.f
  refine Ev.ite (fun h => ?_) (fun h => Ev.const ?_)
  · have h' : l.length = m.length := by omega
    have key : ∀ d i, l.length - i = d → i ≤ l.length → (∀ q : Nat, q < i → rd l (q : Int) = rd m (q : Int)) → Ev (fun k => laws_eqIntS.l0 k l m (i : Nat)) (decide (l = m)) := by
      intro d
      induction d with
      | zero =>
        intro i hd hi hq
        refine Ev.step (fun k => by rw [laws_eqIntS.l0]) (Ev.neg (by omega) (Ev.const ?_))
        rw [decide_eq_true (list_ext_rd h' (fun q hq' => hq q (by omega)))]
      | succ d ih =>
        intro i hd hi hq
        refine Ev.step (fun k => by rw [laws_eqIntS.l0]) (Ev.pos (by omega) (Ev.pos (by omega) (Ev.pos (by omega) (Ev.ite (fun e => ?_) (fun e => Ev.const ?_)))))
        · rw [wrap64_id (by omega) (by omega)]
          exact ih (i + 1) (by omega) (by omega) (fun q hqi => by
            by_cases eq : q = i
            · subst eq; exact e
            · exact hq q (by omega))
        · rw [decide_eq_false]
          intro w; subst w; exact e rfl
    exact key l.length 0 (by omega) (by omega) (fun q hq => by omega)
  · rw [decide_eq_false]
    intro w; subst w; exact h rfl
/-! ### laws_eqMap -/
theorem laws_eqMap_same (l m : List Int) (hl : l.length ≤ 1048576) (hm : m.length ≤ 1048576) : Ev (fun k => laws_eqMap.f k l m l m) true := by
  have h1 := laws_eqIntS_ev l l (by omega)
  have h2 := laws_eqIntS_ev m m (by omega)
  rw [decide_eq_true rfl] at h1 h2
  unfold laws_eqMap.f
  exact Ev.bind h1 (Ev.pos rfl (Ev.bind h2 (Ev.pos rfl (Ev.const rfl))))
/-! ### laws_eqIntSS -/
theorem laws_eqIntSS_same (l : List (List Int)) (h : Small l) : Ev (fun k => laws_eqIntSS.f k l l) true := by
  have eL : ∀ (xs : List (List Int)) (i : Int), rd_L1 xs i = rdL xs i := fun _ _ => rfl
  obtain ⟨hl, hs⟩ := h
  have key : ∀ d i, l.length - i = d → i ≤ l.length → Ev (fun k => laws_eqIntSS.l0 k l l (i : Nat)) true := by
    intro d
    induction d with
    | zero =>
      intro i hd hi
      refine Ev.step (fun k => by rw [laws_eqIntSS.l0]) ?_
      exact Ev.neg (by omega) (Ev.const rfl)
    | succ d ih =>
      intro i hd hi
      have h1 := laws_eqIntS_ev (rdL l (i : Int)) (rdL l (i : Int)) (by have := hs i (by omega); omega)
      rw [decide_eq_true rfl] at h1
      refine Ev.step (fun k => by rw [laws_eqIntSS.l0]) ?_
      rw [wrap64_id (x := (i : Int) + 1) (by omega) (by omega)]
      simp only [eL]
      refine Ev.pos (by omega) (Ev.pos (by omega) (Ev.pos (by omega) (Ev.bind h1 (Ev.pos rfl ?_))))
      exact ih (i + 1) (by omega) (by omega)
  unfold laws_eqIntSS.f
  exact Ev.pos rfl (key l.length 0 (by omega) (by omega))
/-! ### spec_l6In -/
theorem spec_l6In_eq (a b c : Int) : spec_l6In.f a b c = some (decide (b ≤ a ∧ a ≤ c)) := by
  unfold spec_l6In.f
  by_cases h : a ≥ b
  · rw [if_pos h]
    congr 1
    rw [decide_eq_decide]
    omega
  · rw [if_neg h, decide_eq_false (by omega)]
/-! ### spec_PermValid -/
theorem spec_PermValid_ev (p : List Int) (hl : p.length ≤ 1048576) : Ev (fun k => spec_PermValid.f k p) (dec (POK p)) := by
  have key : ∀ d i, p.length - i = d → i ≤ p.length → (∀ a, a < i → 0 ≤ rd p (a : Int) ∧ rd p (a : Int) < p.length) → (∀ a b, a < i → b < a → rd p (b : Int) ≠ rd p (a : Int)) → Ev (fun k => spec_PermValid.l0 k p (i : Nat)) (dec (POK p)) := by
    intro d
    induction d with
    | zero =>
      intro i hd hi h1 h2
      obtain rfl : i = p.length := by omega
      have hp : PermL p.length p := ⟨⟨rfl, h1⟩, fun i j hi hj e => by
        have e1 := h1 i hi
        have e2 := h1 j hj
        unfold fn at e
        rcases Nat.lt_trichotomy i j with q | q | q
        · exact absurd (by omega) (h2 j i hj q)
        · exact q
        · exact absurd (by omega) (h2 i j hi q)⟩
      refine Ev.step (fun k => by rw [spec_PermValid.l0]) ?_
      refine Ev.neg (by omega) (Ev.bindc (spec_l6In_eq _ _ _) (Ev.const ?_))
      congr 1
      exact dec_of ⟨fun q => ⟨by omega, hp⟩, fun q => by have := q.1; omega⟩
    | succ d ih =>
      intro i hd hi h1 h2
      have hi' : i < p.length := by omega
      have inner : ∀ e j, i - j = e → j ≤ i → (0 ≤ rd p (i : Int) ∧ rd p (i : Int) < p.length) → (∀ b, b < j → rd p (b : Int) ≠ rd p (i : Int)) → Ev (fun k => spec_PermValid.l1 k p (i : Nat) (j : Nat)) (dec (POK p)) := by
        intro e
        induction e with
        | zero =>
          intro j he hj hr hb
          obtain rfl : j = i := by omega
          refine Ev.step (fun k => by rw [spec_PermValid.l1]) ?_
          refine Ev.neg (by omega) ?_
          rw [wrap64_id (x := (j : Int) + 1) (by omega) (by omega)]
          refine ih (j + 1) (by omega) (by omega) (fun a ha => ?_) (fun a b ha hba => ?_)
          · by_cases q : a = j
            · subst q; exact hr
            · exact h1 a (by omega)
          · by_cases q : a = j
            · subst q; exact hb b hba
            · exact h2 a b (by omega) hba
        | succ e ihe =>
          intro j he hj hr hb
          refine Ev.step (fun k => by rw [spec_PermValid.l1]) ?_
          rw [wrap64_id (x := (j : Int) + 1) (by omega) (by omega)]
          refine Ev.pos (by omega) (Ev.pos (by omega) (Ev.pos (by omega) (Ev.pos (by omega) (Ev.pos (by omega) ?_))))
          refine Ev.ite (fun q => ?_) (fun q => ?_)
          · rw [dec_f]
            · exact Ev.const rfl
            · intro w
              have := w.2.2 j i (by omega) hi' (by unfold fn; rw [q])
              omega
          · refine ihe (j + 1) (by omega) (by omega) hr (fun b hbj => ?_)
            by_cases z : b = j
            · subst z; exact q
            · exact hb b (by omega)
      refine Ev.step (fun k => by rw [spec_PermValid.l0]) ?_
      rw [wrap64_id (x := (p.length : Int) - 1) (by omega) (by omega)]
      refine Ev.pos (by omega) (Ev.pos (by omega) (Ev.bindc (spec_l6In_eq _ _ _) ?_))
      refine Ev.ite (fun q => ?_) (fun q => ?_)
      · have q' := of_decide_eq_true q
        exact inner i 0 (by omega) (by omega) ⟨by omega, by omega⟩ (fun b hb => by omega)
      · rw [dec_f]
        · exact Ev.const rfl
        · intro w
          have := w.2.1.2 i hi'
          exact q (decide_eq_true ⟨by omega, by omega⟩)
  unfold spec_PermValid.f
  exact key p.length 0 (by omega) (by omega) (fun a ha => by omega) (fun a b ha => by omega)
/-! ### spec_l1Both -/
theorem spec_l1Both_ev (a b : List Int) (ha : a.length ≤ 1048576) (hb : b.length ≤ 1048576) : Ev (fun k => spec_l1Both.f k a b) (dec (POK a ∧ POK b ∧ a.length = b.length)) := by
  unfold spec_l1Both.f
  refine Ev.bind (spec_PermValid_ev a ha) ?_
  refine Ev.ite (fun h1 => ?_) (fun h1 => ?_)
  · refine Ev.bind (spec_PermValid_ev b hb) ?_
    refine Ev.ite (fun h2 => Ev.const ?_) (fun h2 => ?_)
    · congr 1
      have a1 := dec_iff.1 h1
      have a2 := dec_iff.1 h2
      by_cases e : a.length = b.length
      · rw [dec_t ⟨a1, a2, e⟩, e]; exact beq_self_eq_true _
      · rw [dec_f (fun w => e w.2.2)]; exact beq_eq_false_iff_ne.2 (by omega)
    · rw [dec_f (fun w => h2 (dec_t w.2.1))]; exact Ev.const rfl
  · rw [dec_f (fun w => h1 (dec_t w.1))]; exact Ev.const rfl
/-! ### spec_l1Same -/
theorem spec_l1Same_ev (n : Nat) (hn : n ≤ 4194304) : Ev (fun k => spec_l1Same.f k (n : Nat)) (idL n) := by
  have key : ∀ d i, n - i = d → i ≤ n → Ev (fun k => spec_l1Same.l0 k (n : Nat) (idL i) (i : Nat)) (idL n) := by
    intro d
    induction d with
    | zero =>
      intro i hd hi
      obtain rfl : i = n := by omega
      refine Ev.step (fun k => by rw [spec_l1Same.l0]) ?_
      exact Ev.neg (by omega) (Ev.const rfl)
    | succ d ih =>
      intro i hd hi
      refine Ev.step (fun k => by rw [spec_l1Same.l0]) (Ev.pos (by omega) (Ev.pos (by rw [idL_length]; omega) ?_))
      rw [wrap64_id (by omega) (by omega)]
      have := ih (i + 1) (by omega) (by omega)
      rw [show idL (i + 1) = idL i ++ [(i : Int)] by simp [idL, List.range_succ]] at this
      exact this
  unfold spec_l1Same.f
  exact key n 0 (by omega) (by omega)
/-! ### spec_l1Orbits -/
theorem spec_l1Orbits_step {n : Nat} {a b o : List Int} (ha : Pts n a) (hb : Pts n b) (h : OrbPre n a b o) {i : Nat} (hi : i < n) (x : Int)
    (hx : x = mn (rd o (i : Int)) (mn (rd o (fn a i : Int)) (rd o (fn b i : Int)))) :
    OrbPre n a b (((o.set i x).set (fn a i) x).set (fn b i) x) ∧
    (∀ q, q < n → rd (((o.set i x).set (fn a i) x).set (fn b i) x) (q : Int) ≤ rd o (q : Int)) ∧
    (∀ q, (q = i ∨ q = fn a i ∨ q = fn b i) → rd (((o.set i x).set (fn a i) x).set (fn b i) x) (q : Int) = x) := by
  have fa := (ha.fn hi).2
  have fb := (hb.fn hi).2
  have hl := h.1
  have gi := h.2 i hi
  have ga := h.2 _ fa
  have gb := h.2 _ fb
  have hx1 : x ≤ rd o (i : Int) ∧ x ≤ rd o (fn a i : Int) ∧ x ≤ rd o (fn b i : Int) := by rw [hx]; unfold mn; omega
  have hcx : Con n a b i x.toNat := by
    have : x = rd o (i : Int) ∨ x = rd o (fn a i : Int) ∨ x = rd o (fn b i : Int) := by rw [hx]; unfold mn; omega
    rcases this with e | e | e
    · rw [e]; exact gi.2.2
    · rw [e]; exact (Con.fa hi).trans ga.2.2
    · rw [e]; exact (Con.fb hi).trans gb.2.2
  have h0 : 0 ≤ x := by rw [hx]; unfold mn; omega
  have p1 := h.put hi x h0 (by omega) hcx
  have p2 := p1.put fa x h0 (by omega) ((Con.fa hi).symm.trans hcx)
  have p3 := p2.put fb x h0 (by omega) ((Con.fb hi).symm.trans hcx)
  have hval : ∀ q, q < n → rd (((o.set i x).set (fn a i) x).set (fn b i) x) (q : Int) = if q = i ∨ q = fn a i ∨ q = fn b i then x else rd o (q : Int) := by
    intro q hq
    by_cases e1 : fn b i = q
    · subst e1; rw [rd_set_self _ _ _ (by simp; omega), if_pos (.inr (.inr rfl))]
    · rw [rd_set_ne _ _ _ _ e1]
      by_cases e2 : fn a i = q
      · subst e2; rw [rd_set_self _ _ _ (by simp; omega), if_pos (.inr (.inl rfl))]
      · rw [rd_set_ne _ _ _ _ e2]
        by_cases e3 : i = q
        · subst e3; rw [rd_set_self _ _ _ (by omega), if_pos (.inl rfl)]
        · rw [rd_set_ne _ _ _ _ e3, if_neg (by omega)]
  refine ⟨p3, fun q hq => ?_, fun q hq => ?_⟩
  · rw [hval q hq]
    split
    · rename_i e
      rcases e with rfl | rfl | rfl <;> omega
    · exact Int.le_refl _
  · have hqn : q < n := by rcases hq with rfl | rfl | rfl <;> omega
    rw [hval q hqn, if_pos hq]
theorem spec_l1Orbits_ev (n : Nat) (hn : n ≤ 4194304) (a b : List Int) (ha : Pts n a) (hb : Pts n b) : Ev (fun k => spec_l1Orbits.f k a b) (orbL a b) := by
  have la := ha.1
  have lb := hb.1
  have inner : ∀ d i, n - i = d → i ≤ n → ∀ (o0 o : List Int) (t : Nat), OrbPre n a b o0 → OrbPre n a b o → (∀ q, q < n → rd o (q : Int) ≤ rd o0 (q : Int)) →
      (∀ q, q < i → (rd o (fn a q : Int) ≤ rd o0 (q : Int) ∧ rd o (q : Int) ≤ rd o0 (fn a q : Int)) ∧ (rd o (fn b q : Int) ≤ rd o0 (q : Int) ∧ rd o (q : Int) ≤ rd o0 (fn b q : Int))) →
      (∀ o', OrbPre n a b o' → Rounded n a b o0 o' → Ev (fun k => spec_l1Orbits.l0 k a b o' ((t : Int) + 1)) (orbL a b)) → t ≤ 4194304 →
      Ev (fun k => spec_l1Orbits.l1 k a b o (t : Nat) (i : Nat)) (orbL a b) := by
    intro d
    induction d with
    | zero =>
      intro i hd hi o0 o t h0 h hle hq hout ht
      obtain rfl : i = n := by omega
      refine Ev.step (fun k => by rw [spec_l1Orbits.l1]) ?_
      refine Ev.neg (by omega) ?_
      rw [wrap64_id (by omega) (by omega)]
      exact hout o h ⟨hle, hq⟩
    | succ d ih =>
      intro i hd hi o0 o t h0 h hle hq hout ht
      have hi' : i < n := by omega
      have ea := ha.fn hi'
      have eb := hb.fn hi'
      have lo := h.1
      refine Ev.step (fun k => by rw [spec_l1Orbits.l1]) ?_
      rw [ea.1, eb.1, wrap64_id (x := (i : Int) + 1) (by omega) (by omega)]
      simp only [toNat_nat]
      refine Ev.pos (by omega) (Ev.pos (by omega) (Ev.pos (by omega) (Ev.pos (by omega) (Ev.pos (by omega) (Ev.pos (by omega) (Ev.pos (by omega) (Ev.pos (by omega) ?_)))))))
      obtain ⟨s1, s2, s3⟩ := spec_l1Orbits_step ha hb h hi' _ rfl
      have hx : ∀ q, (q = i ∨ q = fn a i ∨ q = fn b i) → mn (rd o (i : Int)) (mn (rd o (fn a i : Int)) (rd o (fn b i : Int))) ≤ rd o (q : Int) := by
        intro q hq; rcases hq with rfl | rfl | rfl <;> (unfold mn; omega)
      refine ih (i + 1) (by omega) (by omega) o0 _ t h0 s1 (fun q hq => Int.le_trans (s2 q hq) (hle q hq)) (fun q hqi => ?_) hout ht
      by_cases e : q = i
      · subst e
        have l1 := hle q hi'
        have l2 := hle _ ea.2
        have l3 := hle _ eb.2
        have x1 := hx q (.inl rfl)
        have x2 := hx _ (.inr (.inl rfl))
        have x3 := hx _ (.inr (.inr rfl))
        rw [s3 q (.inl rfl), s3 _ (.inr (.inl rfl)), s3 _ (.inr (.inr rfl))]
        omega
      · obtain ⟨⟨q1, q2⟩, q3, q4⟩ := hq q (by omega)
        have m1 := s2 _ (ha.fn (show q < n by omega)).2
        have m2 := s2 _ (hb.fn (show q < n by omega)).2
        have m3 := s2 q (by omega)
        omega
  have outer : ∀ d t, n - t = d → t ≤ n → ∀ o : List Int, OrbPre n a b o → (t ≤ cntP (okB n a b o) n) → Ev (fun k => spec_l1Orbits.l0 k a b o (t : Nat)) (orbL a b) := by
    intro d
    induction d with
    | zero =>
      intro t hd ht o h hc
      obtain rfl : t = n := by omega
      refine Ev.step (fun k => by rw [spec_l1Orbits.l0]) ?_
      refine Ev.neg (by omega) (Ev.const ?_)
      rw [settled ha hb h (by have := cntP_le (okB t a b o) t; omega)]
    | succ d ih =>
      intro t hd ht o h hc
      refine Ev.step (fun k => by rw [spec_l1Orbits.l0]) ?_
      refine Ev.pos (by omega) ?_
      refine inner n 0 (by omega) (by omega) o o t h h (fun q _ => Int.le_refl _) (fun q hq => by omega) (fun o' h' hr => ?_) (by omega)
      have := ih (t + 1) (by omega) (by omega) o' h' ?_
      · exact this
      · rcases round_more ha hb h h' hr with e | e
        · have hm : cntP (okB n a b o) n ≤ cntP (okB n a b o') n := by
            refine cntP_mono _ _ n (fun i hi hk => ?_)
            unfold okB at *
            have h1 := of_decide_eq_true hk
            have h2 := hr.1 i hi
            have h3 := h'.low_le hi
            exact decide_eq_true (by omega)
          omega
        · omega
  unfold spec_l1Orbits.f
  rw [la]
  refine Ev.bind (spec_l1Same_ev n hn) ?_
  exact outer n 0 (by omega) (by omega) _ (OrbPre.start n a b) (by omega)
/-! ### spec_MapValid -/
theorem spec_MapValid_ev (t f : List Int) (ht : t.length ≤ 1048576) (hf : f.length ≤ 1048576) : Ev (fun k => spec_MapValid.f k t f) (dec (MOK t f)) := by
  unfold spec_MapValid.f
  refine Ev.bind (spec_l1Both_ev t f ht hf) ?_
  refine Ev.ite (fun h1 => ?_) (fun h1 => ?_)
  · obtain ⟨a1, a2, hl⟩ := dec_iff.1 h1
    have ft := a2.2.1
    have tt := a1.2.1
    rw [hl] at tt
    have hz := a1.1
    have ho := (orbL_isOrb tt ft)
    have hol := ho.1.1
    have last : (∀ q, q < f.length → fn f q ≠ q ∧ fn f (fn f q) = q) → ∀ d i, f.length - i = d → i ≤ f.length → (∀ q, q < i → rd (orbL t f) (q : Int) = 0) → Ev (fun k => spec_MapValid.l1 k (orbL t f) (i : Nat)) (dec (MOK t f)) := by
      intro hq d
      induction d with
      | zero =>
        intro i hd hi h0
        refine Ev.step (fun k => by rw [spec_MapValid.l1]) ?_
        refine Ev.neg (by omega) ?_
        rw [dec_t]
        · exact Ev.const rfl
        · exact ⟨a1, a2, hl, hq, fun i hi => h0 i (by omega)⟩
      | succ d ih =>
        intro i hd hi h0
        refine Ev.step (fun k => by rw [spec_MapValid.l1]) ?_
        rw [wrap64_id (x := (i : Int) + 1) (by omega) (by omega)]
        refine Ev.pos (by omega) (Ev.pos (by omega) (Ev.ite (fun q => ?_) (fun q => ?_)))
        · refine ih (i + 1) (by omega) (by omega) (fun z hz => ?_)
          by_cases e : z = i
          · subst e; exact q
          · exact h0 z (by omega)
        · rw [dec_f (fun w => q (w.2.2.2.2 i (by omega)))]; exact Ev.const rfl
    have key : ∀ d i, f.length - i = d → i ≤ f.length → (∀ q, q < i → fn f q ≠ q ∧ fn f (fn f q) = q) → Ev (fun k => spec_MapValid.l0 k (i : Nat) t f) (dec (MOK t f)) := by
      intro d
      induction d with
      | zero =>
        intro i hd hi hq
        obtain rfl : i = f.length := by omega
        refine Ev.step (fun k => by rw [spec_MapValid.l0]) ?_
        refine Ev.neg (by omega) ?_
        refine Ev.bind (spec_l1Orbits_ev f.length (by omega) t f tt ft) ?_
        exact last hq f.length 0 (by omega) (by omega) (fun q hq => by omega)
      | succ d ih =>
        intro i hd hi hq
        have hi' : i < f.length := by omega
        have e1 := ft.fn hi'
        have e2 := ft.fn e1.2
        refine Ev.step (fun k => by rw [spec_MapValid.l0]) ?_
        rw [e1.1, e2.1, wrap64_id (x := (i : Int) + 1) (by omega) (by omega)]
        refine Ev.pos (by omega) (Ev.pos (by omega) ?_)
        refine Ev.ite (fun n1 => ?_) (fun n1 => ?_)
        · rw [dec_f (fun w => (w.2.2.2.1 i hi').1 (by omega))]; exact Ev.const rfl
        refine Ev.pos (by omega) (Ev.pos (by omega) ?_)
        refine Ev.ite (fun n2 => ?_) (fun n2 => ?_)
        · refine ih (i + 1) (by omega) (by omega) (fun q hqi => ?_)
          by_cases e : q = i
          · subst e; exact ⟨by omega, by omega⟩
          · exact hq q (by omega)
        · rw [dec_f (fun w => n2 (by have := (w.2.2.2.1 i hi').2; omega))]; exact Ev.const rfl
    exact key f.length 0 (by omega) (by omega) (fun q hq => by omega)
  · rw [dec_f (fun w => h1 (dec_t ⟨w.1, w.2.1, w.2.2.1⟩))]; exact Ev.const rfl
/-! ### spec_VoltageValid -/
theorem spec_VoltageValid_ev (t f : List Int) (k : Int) (v : List (List Int)) (ht : t.length ≤ 1048576) (hf : f.length ≤ 1048576) (hv : Small v) : Ev (fun n => spec_VoltageValid.f n t f k v) (dec (VOK t f k v)) := by
  have eL : ∀ (xs : List (List Int)) (i : Int), rd_L1 xs i = rdL xs i := fun _ _ => rfl
  obtain ⟨hl, hs⟩ := hv
  have hno : ¬ VOK t f k v → Ev (fun n => spec_VoltageValid.j0 n k v true) (dec (VOK t f k v)) := fun h => by
    rw [dec_f h]
    exact Ev.step (fun n => by rw [spec_VoltageValid.j0]) (Ev.pos rfl (Ev.const rfl))
  unfold spec_VoltageValid.f
  refine Ev.bind (spec_MapValid_ev t f ht hf) ?_
  refine Ev.ite (fun h1 => ?_) (fun h1 => hno (fun w => h1 (dec_t w.1)))
  have hM := dec_iff.1 h1
  have hz := hM.size
  refine Ev.bindc (spec_l6In_eq _ _ _) ?_
  refine Ev.ite (fun h2 => ?_) (fun h2 => hno (fun w => h2 (decide_eq_true ⟨w.2.1.1, w.2.1.2⟩)))
  replace h2 := of_decide_eq_true h2
  have hb : 0 ≤ k * (t.length : Int) ∧ k * (t.length : Int) ≤ 72 := by
    have h3 := Int.mul_le_mul h2.2 (show (t.length : Int) ≤ 12 by omega) (by omega) (by omega)
    have h4 : 0 ≤ k * (t.length : Int) := Int.mul_nonneg (by omega) (by omega)
    omega
  rw [wrap64_id (x := k * (t.length : Int)) (by omega) (by omega)]
  refine Ev.ite (fun h3 => hno (fun w => by have := w.2.2.1; rw [Int.mul_comm] at this; omega)) (fun h3 => ?_)
  rw [show ((f.length : Int) / 2) = ((f.length / 2 : Nat) : Int) from rfl, wrap64_id (x := ((f.length / 2 : Nat) : Int)) (by omega) (by omega)]
  by_cases h4 : v.length = f.length / 2
  · rw [show ((v.length : Int) != ((f.length / 2 : Nat) : Int)) = false by simp; omega]
    refine Ev.step (fun n => by rw [spec_VoltageValid.j0]) ?_
    refine Ev.neg (by simp) ?_
    have key : ∀ d i, v.length - i = d → i ≤ v.length → (∀ e : Nat, e < i → POK (rdL v (e : Int)) ∧ ((rdL v (e : Int)).length : Int) = k) → Ev (fun n => spec_VoltageValid.l0 n k v (i : Nat)) (dec (VOK t f k v)) := by
      intro d
      induction d with
      | zero =>
        intro i hd hi hq
        obtain rfl : i = v.length := by omega
        refine Ev.step (fun n => by rw [spec_VoltageValid.l0]) ?_
        refine Ev.neg (by omega) ?_
        rw [dec_t]
        · exact Ev.const rfl
        · exact ⟨hM, h2, by rw [Int.mul_comm]; omega, h4, hq⟩
      | succ d ih =>
        intro i hd hi hq
        have hi' : i < v.length := by omega
        refine Ev.step (fun n => by rw [spec_VoltageValid.l0]) ?_
        rw [wrap64_id (x := (i : Int) + 1) (by omega) (by omega)]
        simp only [eL]
        refine Ev.pos (by omega) (Ev.pos (by omega) (Ev.bind (spec_PermValid_ev _ (hs i hi')) ?_))
        refine Ev.ite (fun q1 => ?_) (fun q1 => ?_)
        · refine Ev.ite (fun q2 => ?_) (fun q2 => ?_)
          · refine ih (i + 1) (by omega) (by omega) (fun e he => ?_)
            by_cases z : e = i
            · subst z; exact ⟨dec_iff.1 q1, q2⟩
            · exact hq e (by omega)
          · rw [dec_f (fun w => q2 (w.2.2.2.2 i hi').2)]; exact Ev.const rfl
        · rw [dec_f (fun w => q1 (dec_t (w.2.2.2.2 i hi').1))]; exact Ev.const rfl
    exact key v.length 0 (by omega) (by omega) (fun e he => by omega)
  · rw [show ((v.length : Int) != ((f.length / 2 : Nat) : Int)) = true by simp; omega]
    exact hno (fun w => h4 w.2.2.2.1)
/-! ### spec_l2Order -/
theorem spec_l2Order_ev (l m : List Int) (hl : l.length ≤ 4611686018427387904) (h' : l.length = m.length) : ∃ r : Int, Ev (fun k => spec_l2Order.f k l m) r ∧ ((r == 0) = decide (l = m)) := by
  have key : ∀ d i, l.length - i = d → i ≤ l.length → (∀ q : Nat, q < i → rd l (q : Int) = rd m (q : Int)) → ∃ r : Int, Ev (fun k => spec_l2Order.l0 k l m (i : Nat)) r ∧ ((r == 0) = decide (l = m)) := by
    intro d
    induction d with
    | zero =>
      intro i hd hi hq
      refine ⟨0, Ev.step (fun k => by rw [spec_l2Order.l0]) (Ev.neg (by omega) (Ev.const rfl)), ?_⟩
      rw [decide_eq_true (list_ext_rd h' (fun q hq' => hq q (by omega)))]; rfl
    | succ d ih =>
      intro i hd hi hq
      by_cases e1 : rd l (i : Int) < rd m (i : Int)
      · refine ⟨-1, Ev.step (fun k => by rw [spec_l2Order.l0]) (Ev.pos (by omega) (Ev.pos (by omega) (Ev.pos (by omega) (Ev.pos e1 (Ev.const rfl))))), ?_⟩
        rw [decide_eq_false (by intro w; subst w; omega)]; rfl
      · by_cases e2 : rd l (i : Int) > rd m (i : Int)
        · refine ⟨1, Ev.step (fun k => by rw [spec_l2Order.l0]) (Ev.pos (by omega) (Ev.pos (by omega) (Ev.pos (by omega) (Ev.neg e1 (Ev.pos e2 (Ev.const rfl)))))), ?_⟩
          rw [decide_eq_false (by intro w; subst w; omega)]; rfl
        · obtain ⟨r, h1, h2⟩ := ih (i + 1) (by omega) (by omega) (fun q hqi => by
            by_cases eq : q = i
            · subst eq; omega
            · exact hq q (by omega))
          refine ⟨r, Ev.step (fun k => by rw [spec_l2Order.l0]) (Ev.pos (by omega) (Ev.pos (by omega) (Ev.pos (by omega) (Ev.neg e1 (Ev.neg e2 ?_))))), h2⟩
          rw [wrap64_id (by omega) (by omega)]
          exact h1
  unfold spec_l2Order.f
  exact key l.length 0 (by omega) (by omega) (fun q hq => by omega)
/-! ### spec_l1Mul -/
theorem spec_l1Mul_ev (a b : List Int) (hn : a.length ≤ 4194304) (h : ∀ i : Nat, i < a.length → 0 ≤ rd a (i : Int) ∧ rd a (i : Int) < b.length) : Ev (fun k => spec_l1Mul.f k a b) (mulL a b) := by
  have key : ∀ d i, a.length - i = d → i ≤ a.length → Ev (fun k => spec_l1Mul.l0 k a b ((mulL a b).take i) (i : Nat)) (mulL a b) := by
    intro d
    induction d with
    | zero =>
      intro i hd hi
      refine Ev.step (fun k => by rw [spec_l1Mul.l0]) (Ev.neg (by omega) (Ev.const ?_))
      rw [List.take_of_length_le (by rw [mulL_length]; omega)]
    | succ d ih =>
      intro i hd hi
      have e1 := h i (by omega)
      have hz : ((mulL a b).take i).length ≤ a.length := by rw [List.length_take, mulL_length]; omega
      refine Ev.step (fun k => by rw [spec_l1Mul.l0]) ?_
      rw [wrap64_id (x := (i : Int) + 1) (by omega) (by omega)]
      refine Ev.pos (by omega) (Ev.pos (by omega) (Ev.pos (by omega) (Ev.pos (by omega) (Ev.pos (by omega) ?_))))
      have := ih (i + 1) (by omega) (by omega)
      rw [List.take_succ_eq_append_getElem (by rw [mulL_length]; omega), ← rd_nat (mulL a b) i (by rw [mulL_length]; omega), rd_mulL a b i (by omega)] at this
      exact this
  unfold spec_l1Mul.f
  have := key a.length 0 (by omega) (by omega)
  exact this
/-! ### spec_CoverDeck -/
theorem deck_l1 {n : Nat} {p q : List Int} {v : List (List Int)} (hp : okP n p) (hn : n ≤ 12) (hl : v.length ≤ 1048576) (hv : ∀ e : Nat, e < v.length → (rdL v (e : Int)).length = n ∧ ∀ i : Nat, i < n → 0 ≤ rd (rdL v (e : Int)) (i : Int) ∧ rd (rdL v (e : Int)) (i : Int) < (n : Int)) {c r : Int} (h0 : 0 ≤ c) (h1 : c ≤ 4294967296) (hq : Ev (fun k => spec_l3Next.f k p) q) (hT : com p v = true → Ev (fun k => spec_CoverDeck.l0 k v (c + 1) q) r) (hF : com p v = false → Ev (fun k => spec_CoverDeck.l0 k v c q) r) : Ev (fun k => spec_CoverDeck.l1 k v c p true 0) r := by
  have eL : ∀ (xs : List (List Int)) (i : Int), rd_L1 xs i = rdL xs i := fun _ _ => rfl
  have key : ∀ d i (b : Bool), v.length - i = d → i ≤ v.length → (b = true ↔ ∀ e : Nat, e < i → mulL p (rdL v (e : Int)) = mulL (rdL v (e : Int)) p) → Ev (fun k => spec_CoverDeck.l1 k v c p b (i : Nat)) r := by
    intro d
    induction d with
    | zero =>
      intro i b hd hi hb
      refine Ev.step (fun k => by rw [spec_CoverDeck.l1]) (Ev.neg (by omega) ?_)
      rw [wrap64_id (x := c + 1) (by omega) (by omega)]
      refine Ev.ite (fun e => Ev.bind hq (hT ?_)) (fun e => Ev.bind hq (hF ?_))
      · unfold com; exact dec_t (fun j hj => hb.1 e j (by omega))
      · unfold com; refine dec_f (fun w => e (hb.2 (fun j hj => w j (by omega))))
    | succ d ih =>
      intro i b hd hi hb
      obtain ⟨v1, v2⟩ := hv i (by omega)
      refine Ev.step (fun k => by rw [spec_CoverDeck.l1]) ?_
      simp only [eL]
      rw [wrap64_id (x := (i : Int) + 1) (by omega) (by omega)]
      refine Ev.pos (by omega) (Ev.ite (fun e => ?_) (fun e => ?_))
      · refine Ev.pos (by omega) ?_
        refine Ev.bind (spec_l1Mul_ev p (rdL v (i : Int)) (by rw [hp.1]; omega) (fun j hj => by rw [v1]; exact hp.rd j hj)) ?_
        refine Ev.bind (spec_l1Mul_ev (rdL v (i : Int)) p (by rw [v1]; omega) (fun j hj => by rw [hp.1]; exact v2 j (by omega))) ?_
        obtain ⟨s, s1, s2⟩ := spec_l2Order_ev (mulL p (rdL v (i : Int))) (mulL (rdL v (i : Int)) p) (by rw [mulL_length, hp.1]; omega) (by rw [mulL_length, mulL_length, hp.1, v1])
        refine Ev.bind s1 ?_
        rw [s2]
        refine ih (i + 1) _ (by omega) (by omega) ⟨fun w j hj => ?_, fun w => decide_eq_true (w i (by omega))⟩
        by_cases eq : j = i
        · subst eq; exact of_decide_eq_true w
        · exact hb.1 e j (by omega)
      · refine ih (i + 1) false (by omega) (by omega) ⟨fun w => absurd w (by simp), fun w => absurd (hb.2 (fun j hj => w j (by omega))) e⟩
  exact key v.length 0 true (by omega) (by omega) ⟨fun _ j hj => by omega, fun _ => rfl⟩
def Chn : List (List Int) → Prop
  | [] => True
  | p :: r => Ev (fun k => spec_l3Next.f k p) (r.headD []) ∧ Chn r
theorem deck_l0 {n : Nat} {v : List (List Int)} (h1 : 1 ≤ n) (hn : n ≤ 12) (hl : v.length ≤ 1048576) (hv : ∀ e : Nat, e < v.length → (rdL v (e : Int)).length = n ∧ ∀ i : Nat, i < n → 0 ≤ rd (rdL v (e : Int)) (i : Int) ∧ rd (rdL v (e : Int)) (i : Int) < (n : Int)) : ∀ (ps : List (List Int)) (c : Int), Chn ps → (∀ p ∈ ps, okP n p) → 0 ≤ c → c + (ps.length : Int) ≤ 4294967296 → Ev (fun k => spec_CoverDeck.l0 k v c (ps.headD [])) (c + cntL v ps) := by
  intro ps
  induction ps with
  | nil =>
    intro c _ _ _ _
    refine Ev.step (fun k => by rw [spec_CoverDeck.l0]) (Ev.neg (by simp) (Ev.const ?_))
    simp [cntL]
  | cons p r ih =>
    intro c hC hP h0 hc
    have hp := hP p (by simp)
    simp only [List.length_cons] at hc
    refine Ev.step (fun k => by rw [spec_CoverDeck.l0]) ?_
    refine Ev.pos (by simp only [List.headD_cons]; rw [hp.1]; omega) ?_
    simp only [List.headD_cons]
    refine deck_l1 hp hn hl hv h0 (by omega) hC.1 (fun e => ?_) (fun e => ?_)
    · have := ih (c + 1) hC.2 (fun q hq => hP q (by simp [hq])) (by omega) (by omega)
      refine Ev.to this ?_
      simp only [cntL]; rw [if_pos e]; omega
    · have := ih c hC.2 (fun q hq => hP q (by simp [hq])) h0 (by omega)
      refine Ev.to this ?_
      simp only [cntL]; rw [if_neg (by rw [e]; simp)]; omega
theorem chn_all (n : Nat) (h0 : 1 ≤ n) (h1 : n ≤ 4) : Chn (permsN n) := by
  obtain rfl | rfl | rfl | rfl : n = 1 ∨ n = 2 ∨ n = 3 ∨ n = 4 := by omega
  all_goals
    unfold permsN
    repeat' (first | exact True.intro | refine And.intro ?_ ?_)
    all_goals exact ⟨20, fun k hk => by
      obtain ⟨j, rfl⟩ := Nat.exists_eq_add_of_le' hk
      simp [spec_l3Next.f, spec_l3Next.l0, spec_l3Next.j1, spec_l3Next.l1, spec_l3Next.l2, rd, wrap64]⟩
theorem permsN_head (n : Nat) (h0 : 1 ≤ n) (h1 : n ≤ 4) : (permsN n).headD [] = idL n := by
  obtain rfl | rfl | rfl | rfl : n = 1 ∨ n = 2 ∨ n = 3 ∨ n = 4 := by omega
  all_goals decide +kernel
theorem spec_CoverDeck_ev (t f : List Int) (k : Int) (v : List (List Int)) (ht : t.length ≤ 1048576) (hf : f.length ≤ 1048576) (hv : Small v) : Ev (fun n => spec_CoverDeck.f n t f k v) (deckV t f k v) := by
  unfold spec_CoverDeck.f
  refine Ev.bind (spec_VoltageValid_ev t f k v ht hf hv) ?_
  unfold deckV
  by_cases h : dec (VOK t f k v) = true
  · refine Ev.pos h ?_
    rw [if_pos h]
    obtain ⟨κ, rfl, hN⟩ := (dec_iff.1 h).vn
    refine Ev.step (fun n => by rw [spec_CoverDeck.j0]) ?_
    by_cases h4 : (κ : Int) > 4
    · rw [if_pos h4]
      exact Ev.pos (decide_eq_true h4) (Ev.const rfl)
    · rw [if_neg h4]
      refine Ev.neg (by simpa using h4) ?_
      have hk := hN.k0
      refine Ev.bind (spec_l1Same_ev κ (by omega)) ?_
      rw [← permsN_head κ hk (by omega)]
      have := deck_l0 (n := κ) (v := v) hk (by omega) hv.1 (fun e he => ⟨(hN.vp e he).1.1, fun i hi => (hN.vp e he).1.2 i hi⟩) (permsN κ) 0 (chn_all κ hk (by omega)) (permsN_ok κ hk (by omega)) (by omega) (by have := permsN_len κ; omega)
      rw [Int.zero_add] at this
      exact this
  · refine Ev.neg h ?_
    rw [if_neg h]
    exact Ev.step (fun n => by rw [spec_CoverDeck.j0]) (Ev.pos rfl (Ev.const rfl))
/-! ### impl_PermValid -/
theorem impl_PermValid_eq (p : List Int) : impl_PermValid.f p = some (dec (POK p)) := by
  show some (decide _) = _
  congr 1
  refine dec_of (and_congr_right fun _ => ⟨fun h => ⟨⟨rfl, fun i hi => (h i hi).1⟩, fun i j hi hj e => ?_⟩, fun h j hj => ⟨h.1.2 j hj, fun k hk e => ?_⟩⟩)
  · have h1 := (h i hi).1
    have h2 := (h j hj).1
    unfold fn at e
    have e' : rd p (i : Int) = rd p (j : Int) := by omega
    rcases Nat.lt_trichotomy i j with q | q | q
    · exact absurd e' ((h j hj).2 i q)
    · exact q
    · exact absurd e'.symm ((h i hi).2 j q)
  · have := h.2 k j (by omega) hj (by unfold fn; rw [e])
    omega
/-! ### slices_Max_int_int -/
theorem slices_Max_up (o : List Int) (m : Int) : ∀ i : Nat, m ≤ slices_Max_int_int.go o m i ∧ (∀ j : Nat, j < i → rd o (j : Int) ≤ slices_Max_int_int.go o m i) ∧ (slices_Max_int_int.go o m i = m ∨ ∃ j : Nat, j < i ∧ slices_Max_int_int.go o m i = rd o (j : Int))
  | 0 => ⟨Int.le_refl _, fun j hj => by omega, .inl rfl⟩
  | i + 1 => by
    obtain ⟨h1, h2, h3⟩ := slices_Max_up o m i
    simp only [slices_Max_int_int.go]
    generalize slices_Max_int_int.go o m i = v at *
    split
    · next hlt =>
      refine ⟨by omega, fun j hj => ?_, .inr ⟨i, by omega, rfl⟩⟩
      by_cases e : j = i
      · subst e; exact Int.le_refl _
      · have := h2 j (by omega); omega
    · next hlt =>
      refine ⟨h1, fun j hj => ?_, ?_⟩
      · by_cases e : j = i
        · subst e; omega
        · exact h2 j (by omega)
      · rcases h3 with h3 | ⟨j, hj, h3⟩
        · exact .inl h3
        · exact .inr ⟨j, by omega, h3⟩
theorem slices_Max_zero (o : List Int) (h : 0 < o.length) (h0 : ∀ i : Nat, i < o.length → 0 ≤ rd o (i : Int)) : ∃ v, slices_Max_int_int.f o = some v ∧ (v = 0 ↔ ∀ i : Nat, i < o.length → rd o (i : Int) = 0) := by
  refine ⟨_, by unfold slices_Max_int_int.f; rw [if_pos h], ?_⟩
  unfold slices_Max_int_int.up
  obtain ⟨h1, h2, h3⟩ := slices_Max_up o (rd o 0) o.length
  constructor
  · intro e i hi
    have := h2 i hi
    have := h0 i hi
    omega
  · intro ha
    rcases h3 with h3 | ⟨j, hj, h3⟩
    · rw [h3]; exact ha 0 h
    · rw [h3]; exact ha j hj
/-! ### impl_still -/
theorem impl_still_ev (n : Nat) (hn : n ≤ 4194304) : Ev (fun k => impl_still.f k (n : Nat)) (idL n) := by
  have key : ∀ d i, n - i = d → i ≤ n → ∀ x3 : List Int, x3.length = n → (∀ q : Nat, q < i → rd x3 (q : Int) = (q : Int)) → Ev (fun k => impl_still.l0 k x3 (n : Nat) (i : Nat)) (idL n) := by
    intro d
    induction d with
    | zero =>
      intro i hd hi x3 h3 hq
      obtain rfl : i = n := by omega
      refine Ev.step (fun k => by rw [impl_still.l0]) ?_
      refine Ev.neg (by omega) (Ev.const ?_)
      congr 1
      exact list_ext_rd (by rw [h3, idL_length]) (fun q hq' => by rw [hq q (by omega), rd_idL i q (by omega)])
    | succ d ih =>
      intro i hd hi x3 h3 hq
      refine Ev.step (fun k => by rw [impl_still.l0]) (Ev.pos (by omega) (Ev.pos (by omega) (Ev.pos (by omega) ?_)))
      rw [wrap64_id (by omega) (by omega)]
      refine ih (i + 1) (by omega) (by omega) (x3.set i (i : Int)) (by simp [h3]) (fun q hqi => ?_)
      by_cases e : i = q
      · subst e; exact rd_set_self _ _ _ (by omega)
      · rw [rd_set_ne _ _ _ _ e]; exact hq q (by omega)
  unfold impl_still.f
  refine Ev.pos (by omega) (Ev.pos (by omega) (Ev.bindc rfl ?_))
  have := key n 0 (by omega) (by omega) (List.replicate n 0) (by simp) (fun q hq => by omega)
  rw [List.length_replicate]
  exact this
/-! ### impl_orbits -/
def orbSum (o : List Int) : Nat := o.foldr (fun x s => x.toNat + s) 0
theorem orbSum_set (o : List Int) : ∀ (i : Nat) (x : Int), i < o.length → 0 ≤ x → x < rd o (i : Int) → orbSum (o.set i x) < orbSum o := by
  induction o with
  | nil => intro i x h; simp at h
  | cons y l ih =>
    intro i x h h0 hx
    cases i with
    | zero =>
      have : rd (y :: l) ((0 : Nat) : Int) = y := rfl
      rw [this] at hx
      simp only [List.set_cons_zero, orbSum, List.foldr_cons]
      omega
    | succ i =>
      have : rd (y :: l) ((i + 1 : Nat) : Int) = rd l (i : Int) := by
        simp only [rd, List.getD_eq_getElem?_getD, Int.toNat_natCast, List.getElem?_cons_succ]
      rw [this] at hx
      have := ih i x (by simpa using h) h0 hx
      simp only [List.set_cons_succ, orbSum, List.foldr_cons] at *
      omega
theorem orbSum_set_le (o : List Int) (i : Nat) (x : Int) (h : i < o.length) (h0 : 0 ≤ x) (hx : x ≤ rd o (i : Int)) : orbSum (o.set i x) ≤ orbSum o := by
  by_cases e : x = rd o (i : Int)
  · have : o.set i x = o := by
      refine list_ext_rd (by simp) (fun q hq => ?_)
      by_cases eq : i = q
      · subst eq; rw [rd_set_self _ _ _ h, e]
      · rw [rd_set_ne _ _ _ _ eq]
    rw [this]; exact Nat.le_refl _
  · exact Nat.le_of_lt (orbSum_set o i x h h0 (by omega))
theorem impl_orbits_l2_ev {n : Nat} (hn : n ≤ 4194304) {a b : List Int} (ha : Pts n a) (hb : Pts n b) (p : List Int) (hp : Pts n p)
    (hpc : ∀ i, i < n → Con n a b i (fn p i)) (L : List (List Int)) (o0 : List Int) (x17 x18 : Int) (r : List Int) (pre : Prop)
    (hr : ∀ o g, OrbPre n a b o → (g = true → orbSum o < orbSum o0) → (g = false → o = o0 ∧ pre ∧ ∀ i, i < n → rd o (fn p i : Int) = rd o (i : Int)) → Ev (fun k => impl_orbits.l1 k L o g L x17 (wrap64 (x18 + 1))) r) :
    ∀ d i, n - i = d → i ≤ n → ∀ o g, OrbPre n a b o → (g = true → orbSum o < orbSum o0) → (g = false → o = o0 ∧ pre ∧ ∀ q, q < i → rd o (fn p q : Int) = rd o (q : Int)) →
      Ev (fun k => impl_orbits.l2 k L o g L x17 x18 p (n : Nat) (i : Nat)) r := by
  intro d
  induction d with
  | zero =>
    intro i hd hi o g h hg hf
    obtain rfl : i = n := by omega
    refine Ev.step (fun k => by rw [impl_orbits.l2]) ?_
    refine Ev.neg (by omega) ?_
    exact hr o g h hg hf
  | succ d ih =>
    intro i hd hi o g h hg hf
    have hi' : i < n := by omega
    have ep := hp.fn hi'
    have lp := hp.1
    have lo := h.1
    have gi := h.2 i hi'
    have gp := h.2 _ ep.2
    refine Ev.step (fun k => by rw [impl_orbits.l2]) ?_
    rw [ep.1, wrap64_id (x := (i : Int) + 1) (by omega) (by omega)]
    simp only [toNat_nat]
    refine Ev.pos (by omega) (Ev.pos (by omega) (Ev.pos (by omega) (Ev.pos (by omega) (Ev.pos (by omega) (Ev.pos (by omega) ?_)))))
    -- what a change does
    have hch : ¬ (rd o (i : Int) = rd o (fn p i : Int)) → Ev (fun k => impl_orbits.l2 k L ((o.set i (mn (rd o (i : Int)) (rd o (fn p i : Int)))).set (fn p i) (mn (rd o (i : Int)) (rd o (fn p i : Int)))) true L x17 x18 p (n : Nat) ((i : Int) + 1)) r := by
      intro hne
      have hx : mn (rd o (i : Int)) (rd o (fn p i : Int)) ≤ rd o (i : Int) ∧ mn (rd o (i : Int)) (rd o (fn p i : Int)) ≤ rd o (fn p i : Int) ∧ (mn (rd o (i : Int)) (rd o (fn p i : Int)) < rd o (i : Int) ∨ mn (rd o (i : Int)) (rd o (fn p i : Int)) < rd o (fn p i : Int)) ∧ 0 ≤ mn (rd o (i : Int)) (rd o (fn p i : Int)) ∧
          (mn (rd o (i : Int)) (rd o (fn p i : Int)) = rd o (i : Int) ∨ mn (rd o (i : Int)) (rd o (fn p i : Int)) = rd o (fn p i : Int)) := by unfold mn; omega
      generalize mn (rd o (i : Int)) (rd o (fn p i : Int)) = x at *
      obtain ⟨x1, x2, x3, x4, x5⟩ := hx
      have hcx : Con n a b i x.toNat := by
        rcases x5 with e | e
        · rw [e]; exact gi.2.2
        · rw [e]; exact (hpc i hi').trans gp.2.2
      have p1 := h.put hi' x x4 (by omega) hcx
      have p2 := p1.put ep.2 x x4 (by omega) ((hpc i hi').symm.trans hcx)
      have hs : orbSum ((o.set i x).set (fn p i) x) < orbSum o := by
        have l1 := orbSum_set_le o i x (by omega) x4 x1
        by_cases e : i = fn p i
        · rw [← e] at hne; exact absurd rfl hne
        · have e2 : rd (o.set i x) (fn p i : Int) = rd o (fn p i : Int) := rd_set_ne _ _ _ _ e
          have l2 := orbSum_set_le (o.set i x) (fn p i) x (by simp; omega) x4 (by omega)
          rcases x3 with q | q
          · have := orbSum_set o i x (by omega) x4 q; omega
          · have := orbSum_set (o.set i x) (fn p i) x (by simp; omega) x4 (by omega); omega
      have hs0 : orbSum o ≤ orbSum o0 := by
        cases g with
        | true => exact Nat.le_of_lt (hg rfl)
        | false => rw [(hf rfl).1]; exact Nat.le_refl _
      exact ih (i + 1) (by omega) (by omega) _ true p2 (fun _ => by omega) (fun q => by cases q)
    refine Ev.ite (fun e1 => Ev.ite (fun e2 => ?_) (fun e2 => hch (fun e => e2 ?_))) (fun e1 => hch (fun e => e1 ?_))
    · refine ih (i + 1) (by omega) (by omega) o g h hg (fun hgf => ?_)
      obtain ⟨f1, f2, f3⟩ := hf hgf
      refine ⟨f1, f2, fun q hq => ?_⟩
      by_cases e : q = i
      · subst e; omega
      · exact f3 q (by omega)
    · unfold mn at *; omega
    · unfold mn; omega
theorem impl_orbits_ev (n : Nat) (hn : n ≤ 4194304) (a b : List Int) (ha : Pts n a) (hb : Pts n b) : Ev (fun k => impl_orbits.f k [a, b]) (orbL a b) := by
  have la := ha.1
  have lb := hb.1
  have r0 : rd_L1 [a, b] ((0 : Nat) : Int) = a := rfl
  have r1 : rd_L1 [a, b] ((1 : Nat) : Int) = b := rfl
  have main : ∀ m o, orbSum o ≤ m → OrbPre n a b o → Ev (fun k => impl_orbits.l0 k [a, b] o true) (orbL a b) := by
    intro m
    induction m using Nat.strongRecOn with
    | _ m ih =>
      intro o hm h
      refine Ev.step (fun k => by rw [impl_orbits.l0]) ?_
      refine Ev.pos rfl ?_
      have last : ∀ o' g, OrbPre n a b o' → (g = true → orbSum o' < orbSum o) → (g = false → o' = o ∧ (∀ i, i < n → rd o' (fn a i : Int) = rd o' (i : Int)) ∧ ∀ i, i < n → rd o' (fn b i : Int) = rd o' (i : Int)) →
          Ev (fun k => impl_orbits.l1 k [a, b] o' g [a, b] ((2 : Nat) : Int) ((2 : Nat) : Int)) (orbL a b) := by
        intro o' g h' hg hf
        refine Ev.step (fun k => by rw [impl_orbits.l1]) ?_
        refine Ev.neg (by omega) ?_
        cases g with
        | true => exact ih (orbSum o') (by have := hg rfl; omega) o' (Nat.le_refl _) h'
        | false =>
          obtain ⟨f1, f2, f3⟩ := hf rfl
          refine Ev.step (fun k => by rw [impl_orbits.l0]) ?_
          refine Ev.neg (by simp) (Ev.const ?_)
          congr 1
          exact IsOrb.eq ha hb ⟨h', fun i hi => ⟨f2 i hi, f3 i hi⟩⟩
      have second : ∀ o' g, OrbPre n a b o' → (g = true → orbSum o' < orbSum o) → (g = false → o' = o ∧ True ∧ ∀ i, i < n → rd o' (fn a i : Int) = rd o' (i : Int)) →
          Ev (fun k => impl_orbits.l1 k [a, b] o' g [a, b] ((2 : Nat) : Int) ((1 : Nat) : Int)) (orbL a b) := by
        intro o' g h' hg hf
        refine Ev.step (fun k => by rw [impl_orbits.l1]) ?_
        refine Ev.pos (by omega) (Ev.pos (by omega) (Ev.pos (by simp) ?_))
        rw [r1, lb]
        refine impl_orbits_l2_ev hn ha hb b hb (fun i hi => Con.fb hi) [a, b] o _ _ _ (∀ i, i < n → rd o (fn a i : Int) = rd o (i : Int)) (fun o2 g2 h2 hg2 hf2 => ?_) n 0 (by omega) (by omega) o' g h' hg (fun q => ?_)
        · have e : wrap64 (((1 : Nat) : Int) + 1) = ((2 : Nat) : Int) := by rw [wrap64_id (by omega) (by omega)]; rfl
          rw [e]
          exact last o2 g2 h2 hg2 (fun q => by obtain ⟨z1, z2, z3⟩ := hf2 q; refine ⟨z1, ?_, z3⟩; rw [z1]; exact z2)
        · obtain ⟨z1, _, z3⟩ := hf q
          exact ⟨z1, by rw [z1] at z3; exact z3, fun q hq => by omega⟩
      refine Ev.step (fun k => by rw [impl_orbits.l1]) ?_
      refine Ev.pos (by simp) (Ev.pos (by omega) (Ev.pos (by simp) ?_))
      have r0' : rd_L1 [a, b] 0 = a := rfl
      rw [r0', la]
      refine impl_orbits_l2_ev hn ha hb a ha (fun i hi => Con.fa hi) [a, b] o _ _ _ True (fun o2 g2 h2 hg2 hf2 => ?_) n 0 (by omega) (by omega) o false h (fun q => by cases q) (fun _ => ⟨rfl, trivial, fun q hq => by omega⟩)
      have e1 : wrap64 (0 + 1) = ((1 : Nat) : Int) := by rw [wrap64_id (by omega) (by omega)]; rfl
      rw [e1]
      exact second o2 g2 h2 hg2 hf2
  unfold impl_orbits.f
  have r0' : rd_L1 [a, b] 0 = a := rfl
  refine Ev.pos (by simp) ?_
  rw [r0', la]
  refine Ev.bind (impl_still_ev n hn) ?_
  exact main _ _ (Nat.le_refl _) (OrbPre.start n a b)
/-! ### impl_MapValid -/
theorem impl_MapValid_ev (t f : List Int) : Ev (fun k => impl_MapValid.f k t f) (dec (MOK t f)) := by
  have hno : ¬ MOK t f → Ev (fun k => impl_MapValid.j0 k true t f) (dec (MOK t f)) := fun h => by
    rw [dec_f h]
    exact Ev.step (fun k => by rw [impl_MapValid.j0]) (Ev.pos rfl (Ev.const rfl))
  unfold impl_MapValid.f
  refine Ev.bindc (impl_PermValid_eq t) ?_
  refine Ev.ite (fun h1 => ?_) (fun h1 => hno (fun w => h1 (dec_t w.1)))
  refine Ev.bindc (impl_PermValid_eq f) ?_
  refine Ev.ite (fun h2 => ?_) (fun h2 => hno (fun w => h2 (dec_t w.2.1)))
  have pt := dec_iff.1 h1
  have pf := dec_iff.1 h2
  by_cases hl : t.length = f.length
  · rw [show ((t.length : Int) != (f.length : Int)) = false by simp [hl]]
    refine Ev.step (fun k => by rw [impl_MapValid.j0]) ?_
    refine Ev.neg (by simp) ?_
    obtain ⟨⟨t1, t2⟩, t3⟩ := pt
    obtain ⟨⟨f1, f2⟩, f3⟩ := pf
    have ft := f3.1
    have tt := t3.1
    rw [hl] at tt
    have key : ∀ d i, f.length - i = d → i ≤ f.length → (∀ q, q < i → fn f q ≠ q ∧ fn f (fn f q) = q) → Ev (fun k => impl_MapValid.l0 k f (f.length : Nat) (i : Nat) t f) (dec (MOK t f)) := by
      intro d
      induction d with
      | zero =>
        intro i hd hi hq
        obtain rfl : i = f.length := by omega
        refine Ev.step (fun k => by rw [impl_MapValid.l0]) ?_
        refine Ev.neg (by omega) ?_
        have ho := (orbL_isOrb tt ft)
        have hol := ho.1.1
        obtain ⟨v, v1, v2⟩ := slices_Max_zero (orbL t f) (by omega) (fun i hi => (ho.1.2 i (by omega)).1)
        refine Ev.bind (impl_orbits_ev f.length (by omega) t f tt ft) ?_
        refine Ev.bindc v1 ?_
        refine Ev.const ?_
        congr 1
        by_cases hv : v = 0
        · rw [dec_t, hv]; · rfl
          exact ⟨⟨⟨t1, t2⟩, t3⟩, ⟨⟨f1, f2⟩, f3⟩, hl, hq, fun i hi => v2.1 hv i (by omega)⟩
        · rw [dec_f, beq_eq_false_iff_ne]; · exact hv
          exact fun w => hv (v2.2 (fun i hi => w.2.2.2.2 i (by omega)))
      | succ d ih =>
        intro i hd hi hq
        have hi' : i < f.length := by omega
        have e1 := ft.fn hi'
        have e2 := ft.fn e1.2
        refine Ev.step (fun k => by rw [impl_MapValid.l0]) ?_
        rw [e1.1, e2.1, wrap64_id (x := (i : Int) + 1) (by omega) (by omega)]
        refine Ev.pos (by omega) (Ev.pos (by omega) (Ev.pos (by omega) ?_))
        refine Ev.ite (fun n1 => ?_) (fun n1 => ?_)
        · rw [dec_f (fun w => (w.2.2.2.1 i hi').1 (by omega))]; exact Ev.const rfl
        refine Ev.pos (by omega) (Ev.pos (by omega) ?_)
        refine Ev.ite (fun n2 => ?_) (fun n2 => ?_)
        · refine ih (i + 1) (by omega) (by omega) (fun q hqi => ?_)
          by_cases e : q = i
          · subst e; exact ⟨by omega, by omega⟩
          · exact hq q (by omega)
        · rw [dec_f (fun w => n2 (by have := (w.2.2.2.1 i hi').2; omega))]; exact Ev.const rfl
    exact key f.length 0 (by omega) (by omega) (fun q hq => by omega)
  · rw [show ((t.length : Int) != (f.length : Int)) = true by simp; omega]
    exact hno (fun w => hl w.2.2.1)
/-! ### impl_VoltageValid -/
theorem impl_VoltageValid_ev (t f : List Int) (k : Int) (v : List (List Int)) (hl : v.length ≤ 1048576) : Ev (fun n => impl_VoltageValid.f n t f k v) (dec (VOK t f k v)) := by
  have eL : ∀ (xs : List (List Int)) (i : Int), rd_L1 xs i = rdL xs i := fun _ _ => rfl
  have hno : ¬ VOK t f k v → Ev (fun n => impl_VoltageValid.j0 n k v true) (dec (VOK t f k v)) := fun h => by
    rw [dec_f h]
    exact Ev.step (fun n => by rw [impl_VoltageValid.j0]) (Ev.pos rfl (Ev.const rfl))
  unfold impl_VoltageValid.f
  refine Ev.bind (impl_MapValid_ev t f) ?_
  refine Ev.ite (fun h1 => ?_) (fun h1 => hno (fun w => h1 (dec_t w.1)))
  have hM := dec_iff.1 h1
  have hz := hM.size
  refine Ev.ite (fun h2 => hno (fun w => by have := w.2.1.1; omega)) (fun h2 => ?_)
  refine Ev.ite (fun h2' => hno (fun w => by have := w.2.1.2; omega)) (fun h2' => ?_)
  have hb : 0 ≤ (t.length : Int) * k ∧ (t.length : Int) * k ≤ 72 := by
    have h3 := Int.mul_le_mul (show (t.length : Int) ≤ 12 by omega) (show k ≤ 6 by omega) (by omega) (by omega)
    have h4 : 0 ≤ (t.length : Int) * k := Int.mul_nonneg (by omega) (by omega)
    omega
  rw [wrap64_id (x := (t.length : Int) * k) (by omega) (by omega)]
  refine Ev.ite (fun h3 => hno (fun w => by have := w.2.2.1; omega)) (fun h3 => ?_)
  rw [show ((f.length : Int) / 2) = ((f.length / 2 : Nat) : Int) from rfl, wrap64_id (x := ((f.length / 2 : Nat) : Int)) (by omega) (by omega)]
  by_cases h4 : v.length = f.length / 2
  · rw [show ((v.length : Int) != ((f.length / 2 : Nat) : Int)) = false by simp; omega]
    refine Ev.step (fun n => by rw [impl_VoltageValid.j0]) ?_
    refine Ev.neg (by simp) ?_
    have key : ∀ d i, v.length - i = d → i ≤ v.length → (∀ e : Nat, e < i → POK (rdL v (e : Int)) ∧ ((rdL v (e : Int)).length : Int) = k) → Ev (fun n => impl_VoltageValid.l0 n k v (v.length : Nat) (i : Nat)) (dec (VOK t f k v)) := by
      intro d
      induction d with
      | zero =>
        intro i hd hi hq
        obtain rfl : i = v.length := by omega
        refine Ev.step (fun n => by rw [impl_VoltageValid.l0]) ?_
        refine Ev.neg (by omega) ?_
        rw [dec_t]
        · exact Ev.const rfl
        · exact ⟨hM, by omega, by omega, h4, hq⟩
      | succ d ih =>
        intro i hd hi hq
        have hi' : i < v.length := by omega
        refine Ev.step (fun n => by rw [impl_VoltageValid.l0]) ?_
        rw [wrap64_id (x := (i : Int) + 1) (by omega) (by omega)]
        simp only [eL]
        refine Ev.pos (by omega) (Ev.pos (by omega) (Ev.pos (by omega) (Ev.bindc (impl_PermValid_eq _) ?_)))
        refine Ev.ite (fun q1 => ?_) (fun q1 => ?_)
        · refine Ev.ite (fun q2 => ?_) (fun q2 => ?_)
          · refine ih (i + 1) (by omega) (by omega) (fun e he => ?_)
            by_cases z : e = i
            · subst z; exact ⟨dec_iff.1 q1, q2⟩
            · exact hq e (by omega)
          · rw [dec_f (fun w => q2 (w.2.2.2.2 i hi').2)]; exact Ev.const rfl
        · rw [dec_f (fun w => q1 (dec_t (w.2.2.2.2 i hi').1))]; exact Ev.const rfl
    exact key v.length 0 (by omega) (by omega) (fun e he => by omega)
  · rw [show ((v.length : Int) != ((f.length / 2 : Nat) : Int)) = true by simp; omega]
    exact hno (fun w => h4 w.2.2.2.1)
/-! ### slices_Equal_int_int -/
theorem slices_Equal_ev (l m : List Int) (hl : l.length ≤ 4611686018427387904) : Ev (fun k => slices_Equal_int_int.f k l m) (decide (l = m)) := by
  unfold slices_Equal_int_int.f
  refine Ev.ite (fun h => ?_) (fun h => Ev.const ?_)
  · have h' : l.length = m.length := by omega
    have key : ∀ d i, l.length - i = d → i ≤ l.length → (∀ q : Nat, q < i → rd l (q : Int) = rd m (q : Int)) → Ev (fun k => slices_Equal_int_int.l0 k l m (l.length : Int) (i : Nat)) (decide (l = m)) := by
      intro d
      induction d with
      | zero =>
        intro i hd hi hq
        refine Ev.step (fun k => by rw [slices_Equal_int_int.l0]) (Ev.neg (by omega) (Ev.const ?_))
        rw [decide_eq_true (list_ext_rd h' (fun q hq' => hq q (by omega)))]
      | succ d ih =>
        intro i hd hi hq
        refine Ev.step (fun k => by rw [slices_Equal_int_int.l0]) (Ev.pos (by omega) (Ev.pos (by omega) (Ev.pos (by omega) (Ev.pos (by omega) (Ev.ite (fun e => ?_) (fun e => Ev.const ?_))))))
        · rw [wrap64_id (by omega) (by omega)]
          exact ih (i + 1) (by omega) (by omega) (fun q hqi => by
            by_cases eq : q = i
            · subst eq; exact e
            · exact hq q (by omega))
        · rw [decide_eq_false]
          intro w; subst w; exact e rfl
    exact key l.length 0 (by omega) (by omega) (fun q hq => by omega)
  · rw [decide_eq_false]
    intro w; subst w; exact h rfl
/-! ### impl_mul -/
theorem impl_mul_ev (a b : List Int) (hn : a.length ≤ 4194304) (h : ∀ i : Nat, i < a.length → 0 ≤ rd a (i : Int) ∧ rd a (i : Int) < b.length) : Ev (fun k => impl_mul.f k a b) (mulL a b) := by
  have key : ∀ d i, a.length - i = d → i ≤ a.length → ∀ x : List Int, x.length = a.length → (∀ q : Nat, q < i → rd x (q : Int) = rd b (rd a (q : Int))) →
      Ev (fun k => impl_mul.l0 k b x a (a.length : Nat) (i : Nat)) (mulL a b) := by
    intro d
    induction d with
    | zero =>
      intro i hd hi x hx hq
      refine Ev.step (fun k => by rw [impl_mul.l0]) (Ev.neg (by omega) (Ev.const ?_))
      congr 1
      refine list_ext_rd (by rw [hx, mulL_length]) (fun j hj => ?_)
      rw [hq j (by omega), rd_mulL a b j (by omega)]
    | succ d ih =>
      intro i hd hi x hx hq
      have e1 := h i (by omega)
      refine Ev.step (fun k => by rw [impl_mul.l0]) ?_
      rw [wrap64_id (x := (i : Int) + 1) (by omega) (by omega)]
      simp only [toNat_nat]
      refine Ev.pos (by omega) (Ev.pos (by omega) (Ev.pos (by omega) (Ev.pos (by omega) (Ev.pos (by omega) (Ev.pos (by omega) ?_)))))
      refine ih (i + 1) (by omega) (by omega) _ (by simp [hx]) (fun q hqi => ?_)
      by_cases e : i = q
      · subst e; exact rd_set_self _ _ _ (by omega)
      · rw [rd_set_ne _ _ _ _ e]; exact hq q (by omega)
  unfold impl_mul.f
  refine Ev.pos (by omega) (Ev.pos (by omega) ?_)
  exact key a.length 0 (by omega) (by omega) _ (by simp) (fun q hq => by omega)
/-! ### slices_Index_int_int -/
theorem slices_Index_ev (l : List Int) (a : Int) (hl : l.length ≤ 4611686018427387904) : ∃ r, Ev (fun k => slices_Index_int_int.f k l a) r ∧ (r ≥ 0 ↔ a ∈ l) := by
  have key : ∀ d i, l.length - i = d → i ≤ l.length → (∀ q : Nat, q < i → rd l (q : Int) ≠ a) → ∃ r, Ev (fun k => slices_Index_int_int.l0 k l a (l.length : Int) (i : Nat)) r ∧ (r ≥ 0 ↔ a ∈ l) := by
    intro d
    induction d with
    | zero =>
      intro i hd hi hq
      refine ⟨-1, Ev.step (fun k => by rw [slices_Index_int_int.l0]) (Ev.neg (by omega) (Ev.const rfl)), fun h => absurd h (by omega), fun h => ?_⟩
      obtain ⟨j, hj, e⟩ := List.mem_iff_getElem.1 h
      exact absurd (by rw [rd_nat l j hj]; exact e) (hq j (by omega))
    | succ d ih =>
      intro i hd hi hq
      by_cases e : a = rd l (i : Int)
      · refine ⟨(i : Int), Ev.step (fun k => by rw [slices_Index_int_int.l0]) (Ev.pos (by omega) (Ev.pos (by omega) (Ev.pos (by omega) (Ev.pos e (Ev.const rfl))))), fun _ => ?_, fun _ => by omega⟩
        rw [e, rd_nat l i (by omega)]
        exact List.getElem_mem _
      · obtain ⟨r, h1, h2⟩ := ih (i + 1) (by omega) (by omega) (fun q hqi => by
          by_cases eq : q = i
          · subst eq; exact fun w => e w.symm
          · exact hq q (by omega))
        refine ⟨r, Ev.step (fun k => by rw [slices_Index_int_int.l0]) (Ev.pos (by omega) (Ev.pos (by omega) (Ev.pos (by omega) (Ev.neg e ?_)))), h2⟩
        rw [wrap64_id (by omega) (by omega)]
        exact h1
  unfold slices_Index_int_int.f
  exact key l.length 0 (by omega) (by omega) (fun q hq => by omega)
/-! ### slices_Contains_int_int -/
theorem slices_Contains_ev (l : List Int) (a : Int) (hl : l.length ≤ 4611686018427387904) : Ev (fun k => slices_Contains_int_int.f k l a) (decide (a ∈ l)) := by
  obtain ⟨r, h1, h2⟩ := slices_Index_ev l a hl
  unfold slices_Contains_int_int.f
  refine Ev.bind h1 (Ev.const ?_)
  congr 1
  exact decide_eq_decide.2 h2
/-! ### slices_Clone_int_int -/
theorem slices_Clone_eq (l : List Int) (h : l.length ≤ 1048576) : slices_Clone_int_int.f l = some l := if_pos h
/-! ### impl_CoverDeck -/
theorem deck_t0 {n : Nat} {p : List Int} {v : List (List Int)} (hp : okP n p) (hn : n ≤ 12) (hl : v.length ≤ 1048576) (hv : ∀ e : Nat, e < v.length → (rdL v (e : Int)).length = n ∧ ∀ i : Nat, i < n → 0 ≤ rd (rdL v (e : Int)) (i : Int) ∧ rd (rdL v (e : Int)) (i : Int) < (n : Int)) : Ev (fun k => impl_CoverDeck.t0 k p v 0) (com p v) := by
  have eL : ∀ (xs : List (List Int)) (i : Int), rd_L1 xs i = rdL xs i := fun _ _ => rfl
  have key : ∀ d i, v.length - i = d → i ≤ v.length → (∀ e : Nat, e < i → mulL p (rdL v (e : Int)) = mulL (rdL v (e : Int)) p) → Ev (fun k => impl_CoverDeck.t0 k p v (i : Nat)) (com p v) := by
    intro d
    induction d with
    | zero =>
      intro i hd hi hq
      refine Ev.step (fun k => by rw [impl_CoverDeck.t0]) (Ev.neg (by omega) (Ev.const ?_))
      unfold com
      rw [dec_t (fun e he => hq e (by omega))]
    | succ d ih =>
      intro i hd hi hq
      obtain ⟨v1, v2⟩ := hv i (by omega)
      refine Ev.step (fun k => by rw [impl_CoverDeck.t0]) ?_
      simp only [eL]
      refine Ev.pos (by omega) (Ev.pos (by omega) ?_)
      refine Ev.bind (impl_mul_ev p (rdL v (i : Int)) (by rw [hp.1]; omega) (fun j hj => by rw [v1]; exact hp.rd j hj)) ?_
      refine Ev.bind (impl_mul_ev (rdL v (i : Int)) p (by rw [v1]; omega) (fun j hj => by rw [hp.1]; exact v2 j (by omega))) ?_
      refine Ev.bind (slices_Equal_ev _ _ (by rw [mulL_length, hp.1]; omega)) ?_
      refine Ev.ite (fun e => ?_) (fun e => Ev.const ?_)
      · rw [wrap64_id (by omega) (by omega)]
        have e := of_decide_eq_true e
        exact ih (i + 1) (by omega) (by omega) (fun q hqi => by
          by_cases eq : q = i
          · subst eq; exact e
          · exact hq q (by omega))
      · unfold com
        rw [dec_f]
        intro w
        exact e (decide_eq_true (w i (by omega)))
  exact key v.length 0 (by omega) (by omega) (fun q hq => by omega)
theorem deck_y0 {n : Nat} {v : List (List Int)} (hn : n ≤ 12) (hl : v.length ≤ 1048576) (hv : ∀ e : Nat, e < v.length → (rdL v (e : Int)).length = n ∧ ∀ i : Nat, i < n → 0 ≤ rd (rdL v (e : Int)) (i : Int) ∧ rd (rdL v (e : Int)) (i : Int) < (n : Int)) : ∀ d (p : List Int) (c : Int), n - p.length + 1 = d → p.length ≤ n → (∀ x ∈ p, 0 ≤ x ∧ x < (n : Int)) → 0 ≤ c → c + ((dfs n d p).length : Int) ≤ 4294967296 → Ev (fun k => impl_CoverDeck.y0 k v (n : Nat) p c) (c + cntL v (dfs n d p)) := by
  intro d
  induction d with
  | zero => intro p c hd; omega
  | succ d ih =>
    intro p c hd hp hx h0 hc
    unfold impl_CoverDeck.y0
    by_cases e : p.length = n
    · have e2 : dfs n (d + 1) p = [p] := by unfold dfs; rw [if_pos e]
      rw [e2] at hc ⊢
      simp only [List.length_singleton] at hc
      refine Ev.pos (by omega) ?_
      refine Ev.bind (deck_t0 ⟨e, hx⟩ hn hl hv) (Ev.const ?_)
      congr 1
      simp only [cntL]
      split
      · rw [wrap64_id (by omega) (by omega)]; omega
      · omega
    · have e2 : dfs n (d + 1) p = dfsFrom n d p 0 := by
        rw [dfs, if_neg e]; rfl
      rw [e2] at hc ⊢
      refine Ev.neg (by omega) ?_
      have key : ∀ q i (c : Int), n - i = q → i ≤ n → 0 ≤ c → c + ((dfsFrom n d p i).length : Int) ≤ 4294967296 → Ev (fun k => impl_CoverDeck.g0 k v (n : Nat) p (i : Nat) c) (c + cntL v (dfsFrom n d p i)) := by
        intro q
        induction q with
        | zero =>
          intro i c hq hi h0 hc
          rw [dfsFrom_end n d p i (by omega)]
          refine Ev.step (fun k => by rw [impl_CoverDeck.g0]) (Ev.neg (by omega) (Ev.const ?_))
          simp [cntL]
        | succ q ih2 =>
          intro i c hq hi h0 hc
          rw [dfsFrom_step n d p i (by omega)] at hc ⊢
          rw [List.length_append] at hc
          refine Ev.step (fun k => by rw [impl_CoverDeck.g0]) ?_
          rw [wrap64_id (x := (i : Int) + 1) (by omega) (by omega)]
          refine Ev.pos (by omega) ?_
          refine Ev.bind (slices_Contains_ev p (i : Int) (by omega)) ?_
          by_cases hm : (i : Int) ∈ p
          · rw [if_pos hm] at hc ⊢
            refine Ev.pos (decide_eq_true hm) ?_
            rw [List.nil_append]
            exact ih2 (i + 1) c (by omega) (by omega) h0 (by simpa using hc)
          · rw [if_neg hm] at hc ⊢
            refine Ev.neg (by simpa using hm) ?_
            refine Ev.bindc (slices_Clone_eq p (by omega)) ?_
            refine Ev.pos (by omega) ?_
            have hr := cntL_range v (dfs n d (p ++ [(i : Int)]))
            rw [cntL_append, ← Int.add_assoc]
            refine Ev.bind (a := c + cntL v (dfs n d (p ++ [(i : Int)]))) ?_ ?_
            · refine ih (p ++ [(i : Int)]) c (by simp; omega) (by simp; omega) (fun x hx2 => ?_) h0 (by omega)
              rcases List.mem_append.1 hx2 with h | h
              · exact hx x h
              · obtain rfl := List.mem_singleton.1 h; omega
            · exact ih2 (i + 1) _ (by omega) (by omega) (by omega) (by omega)
      exact key n 0 c (by omega) (by omega) h0 hc
theorem impl_CoverDeck_ev (t f : List Int) (k : Int) (v : List (List Int)) (hv : v.length ≤ 1048576) : Ev (fun n => impl_CoverDeck.f n t f k v) (deckV t f k v) := by
  unfold impl_CoverDeck.f
  refine Ev.bind (impl_VoltageValid_ev t f k v hv) ?_
  unfold deckV
  by_cases h : dec (VOK t f k v) = true
  · refine Ev.pos h ?_
    rw [if_pos h]
    obtain ⟨κ, rfl, hN⟩ := (dec_iff.1 h).vn
    refine Ev.ite (fun h4 => Ev.const (by rw [if_pos h4])) (fun h4 => ?_)
    rw [if_neg h4]
    have hk := hN.k0
    have hd := dfs_all κ hk (by omega)
    have := deck_y0 (n := κ) (v := v) (by have := hN.k1; omega) hv (fun e he => ⟨(hN.vp e he).1.1, fun i hi => (hN.vp e he).1.2 i hi⟩) (κ + 1) [] 0 (by simp) (by simp) (by simp) (by omega) (by rw [hd]; have := permsN_len κ; omega)
    rw [hd, Int.zero_add] at this
    exact this
  · refine Ev.neg h (Ev.const ?_)
    rw [if_neg h]
/-! ### The law -/
def PureT : Prop := ∀ (l0_0 l0_1 : List Int) (a1 : Int) (l2 : List (List Int)), l0_0.length ≤ 9223372036854775807 → l0_1.length ≤ 9223372036854775807 → l2.length ≤ 9223372036854775807 → (∀ x ∈ l2, x.length ≤ 9223372036854775807) → ∃ k, laws_FnExactCoverDeck.f k l0_0 l0_1 a1 l2 = some true
theorem FnExactCoverDeck : PureT := by
  intro t f k v ht hf hv hx
  refine Ev.rounds ?_
  unfold laws_FnExactCoverDeck.f
  obtain ⟨a, a1, a2⟩ := laws_szMap_eq t f ht hf
  refine Ev.bindc a1 ?_
  rcases a2 with a2 | ⟨a2, a3, ht', hf'⟩
  · exact Ev.pos a2 (Ev.const rfl)
  refine Ev.neg (by omega) ?_
  obtain ⟨b, b1, b2⟩ := laws_szIntSS_ev v a a2 a3 hv hx
  refine Ev.bind b1 ?_
  rcases b2 with b2 | ⟨b2, b3, hS⟩
  · exact Ev.pos b2 (Ev.const rfl)
  refine Ev.neg (by omega) ?_
  refine Ev.bind (laws_toMap_ev t f ht' hf') ?_
  refine Ev.bind (laws_toIntSS_ev v hS) ?_
  refine Ev.bind (spec_CoverDeck_ev t f k v ht' hf' hS) ?_
  refine Ev.bind (laws_toMap_ev t f ht' hf') ?_
  refine Ev.bind (laws_toIntSS_ev v hS) ?_
  refine Ev.bind (impl_CoverDeck_ev t f k v hS.1) ?_
  refine Ev.pos rfl ?_
  refine Ev.bind (laws_toMap_ev t f ht' hf') ?_
  refine Ev.bind (laws_eqMap_same t f ht' hf') (Ev.pos rfl ?_)
  refine Ev.bind (laws_toIntSS_ev v hS) ?_
  refine Ev.bind (laws_eqIntSS_same v hS) (Ev.pos rfl ?_)
  exact Ev.const rfl

end Go.Proofs.Ytmcgkckdnelcdaa.Pure
