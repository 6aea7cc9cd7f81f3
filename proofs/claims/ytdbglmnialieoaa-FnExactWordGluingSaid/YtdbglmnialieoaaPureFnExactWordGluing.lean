/- The law FnExactWordGluing holds for every input. -/
import Derived.Test.YtdbglmnialieoaaPFnExactWordGluingx4
import Derived.Test.YtdbglmnialieoaaM0
import Derived.Test.YtdbglmnialieoaaML
set_option linter.unusedVariables false
set_option linter.unusedSimpArgs false
namespace Go.Proofs.Ytdbglmnialieoaa.Pure
open Go.RowKit Go.Proofs.Ytdbglmnialieoaa.PFnExactWordGluing Go.Proofs.YtdbglmnialieoaaW.PrintWords Go.Proofs.YtdbglmnialieoaaW.PrintLast Go.Proofs.Ytdbglmnialieoaa.M

/-! ### spec_l8Letter -/
theorem spec_l8Letter_ev (x : Int) (h0 : 0 ≤ x) (h1 : x ≤ 255) : Ev (fun k => spec_l8Letter.f k x) (slet x) := by
  have hj : ∀ b, Ev (fun k => spec_l8Letter.j0 k x b) (if b = true then (x - 97) % 256 else if x ≥ 65 then if x < 70 then (x - 65) % 256 else -1 else -1) := by
    intro b
    refine Ev.step (fun k => by rw [spec_l8Letter.j0]) ?_
    refine Ev.const ?_
    repeat' split
    all_goals rfl
  unfold spec_l8Letter.f slet
  refine Ev.ite (fun h => Ev.to (hj _) ?_) (fun h => Ev.to (hj _) ?_)
  · by_cases h2 : x < 102 <;> simp [h2] <;> omega
  · simp
    split <;> split <;> omega
/-! ### spec_WordValid -/
theorem spec_WordValid_l1_ev (s : ByteArray) (hs : s.size ≤ 1048576) (i : Nat) (hi : i < s.size) (r : Bool) (hr : Ev (fun k => spec_WordValid.l1 k s i (wcnt s (wl s i) s.size : Nat) (s.size : Nat)) r) :
    ∀ d j, s.size - j = d → j ≤ s.size → Ev (fun k => spec_WordValid.l1 k s i (wcnt s (wl s i) j : Nat) (j : Nat)) r := by
  intro d
  induction d with
  | zero => intro j hd hj; obtain rfl : j = s.size := by omega
            exact hr
  | succ d ih =>
    intro j hd hj
    have hb := wcnt_le s (wl s i) j
    refine Ev.step (fun k => by rw [spec_WordValid.l1]) ?_
    refine Ev.pos (by omega) (Ev.pos (by omega) ?_)
    refine Ev.bind (spec_l8Letter_ev _ (bt_rng _ _).1 (bt_rng _ _).2) (Ev.pos (by omega) (Ev.pos (by omega) ?_))
    refine Ev.bind (spec_l8Letter_ev _ (bt_rng _ _).1 (bt_rng _ _).2) ?_
    have := ih (j + 1) (by omega) (by omega)
    rw [wrap64_id (x := (j : Int) + 1) (by omega) (by omega)]
    refine Ev.ite (fun h => ?_) (fun h => ?_)
    · rw [wrap64_id (by omega) (by omega)]
      have e : wcnt s (wl s i) (j + 1) = wcnt s (wl s i) j + 1 := by simp only [wcnt]; exact congrArg (wcnt s (wl s i) j + ·) (if_pos h)
      rw [e] at this; exact this
    · have e : wcnt s (wl s i) (j + 1) = wcnt s (wl s i) j := by simp only [wcnt]; exact congrArg (wcnt s (wl s i) j + ·) (if_neg h)
      rw [e] at this; exact this
theorem spec_WordValid_ev (s : ByteArray) (hs : s.size ≤ 1048576) : Ev (fun k => spec_WordValid.f k s) (decide (WOK s)) := by
  have key : ∀ d i, s.size - i = d → i ≤ s.size → (∀ q, q < i → 0 ≤ wl s q ∧ wcnt s (wl s q) s.size = 2) → Ev (fun k => spec_WordValid.l0 k s (i : Nat)) (decide (WOK s)) := by
    intro d
    induction d with
    | zero =>
      intro i hd hi hq
      obtain rfl : i = s.size := by omega
      refine Ev.step (fun k => by rw [spec_WordValid.l0]) (Ev.neg (by omega) (Ev.const ?_))
      congr 1
      rw [decide_eq_decide]
      exact ⟨fun h => ⟨by omega, hq⟩, fun h => by have := h.1; omega⟩
    | succ d ih =>
      intro i hd hi hq
      refine Ev.step (fun k => by rw [spec_WordValid.l0]) (Ev.pos (by omega) ?_)
      refine spec_WordValid_l1_ev s hs i (by omega) _ ?_ s.size 0 (by omega) (by omega)
      refine Ev.step (fun k => by rw [spec_WordValid.l1]) (Ev.neg (by omega) (Ev.pos (by omega) (Ev.pos (by omega) ?_)))
      refine Ev.bind (spec_l8Letter_ev _ (bt_rng _ _).1 (bt_rng _ _).2) ?_
      have hn : ∀ h : ¬ (0 ≤ wl s i ∧ wcnt s (wl s i) s.size = 2), some false = some (decide (WOK s)) := fun h => by
        rw [decide_eq_false (fun w => h (w.2 i (by omega)))]
      refine Ev.ite (fun h => Ev.const (hn (fun a => by have := a.1; simp only [wl] at this; omega))) (fun h => ?_)
      refine Ev.ite (fun h2 => ?_) (fun h2 => Ev.const (hn (fun a => h2 (by have := a.2; omega))))
      rw [wrap64_id (by omega) (by omega)]
      exact ih (i + 1) (by omega) (by omega) (fun q hqi => by
        by_cases e : q = i
        · subst e; exact ⟨by simp only [wl]; omega, by omega⟩
        · exact hq q (by omega))
  unfold spec_WordValid.f
  exact key s.size 0 (by omega) (by omega) (fun q hq => by omega)
/-! ### spec_l8Small -/
theorem spec_l8Small_eq (x : Int) : spec_l8Small.f x = some (decide (x ≥ 97)) := rfl
/-! ### spec_l8Partner -/
theorem spec_l8Partner_ev (s : ByteArray) (hs : s.size ≤ 1048576) (h : WOK s) (i : Nat) (hi : i < s.size) : Ev (fun k => spec_l8Partner.f k s (i : Nat)) (par s i : Nat) := by
  obtain ⟨p1, p2, p3, p4⟩ := par_spec h hi
  have key : ∀ d j, par s i - j = d → j ≤ par s i → Ev (fun k => spec_l8Partner.l0 k s (i : Nat) (j : Nat)) (par s i : Nat) := by
    intro d
    induction d with
    | zero =>
      intro j hd hj
      obtain rfl : j = par s i := by omega
      refine Ev.step (fun k => by rw [spec_l8Partner.l0]) (Ev.pos (by omega) (Ev.neg (by omega) (Ev.pos (by omega) ?_)))
      refine Ev.bind (spec_l8Letter_ev _ (bt_rng _ _).1 (bt_rng _ _).2) (Ev.pos (by omega) (Ev.pos (by omega) ?_))
      refine Ev.bind (spec_l8Letter_ev _ (bt_rng _ _).1 (bt_rng _ _).2) (Ev.pos p3 (Ev.const rfl))
    | succ d ih =>
      intro j hd hj
      have := ih (j + 1) (by omega) (by omega)
      refine Ev.step (fun k => by rw [spec_l8Partner.l0]) (Ev.pos (by omega) ?_)
      rw [wrap64_id (x := (j : Int) + 1) (by omega) (by omega)]
      refine Ev.ite (fun _ => this) (fun hne => Ev.pos (by omega) ?_)
      refine Ev.bind (spec_l8Letter_ev _ (bt_rng _ _).1 (bt_rng _ _).2) (Ev.pos (by omega) (Ev.pos (by omega) ?_))
      refine Ev.bind (spec_l8Letter_ev _ (bt_rng _ _).1 (bt_rng _ _).2) (Ev.neg (fun e => ?_) this)
      have := p4 j (by omega) (by omega) e
      omega
  unfold spec_l8Partner.f
  exact key (par s i) 0 (by omega) (by omega)
/-! ### spec_WordSided -/
theorem spec_WordSided_ev (s : ByteArray) (hs : s.size ≤ 1048576) : Ev (fun k => spec_WordSided.f k s) (decide (WSD s)) := by
  have hend : ∀ x : Int, Ev (fun k => spec_WordSided.j1 k s x false) (decide (WOK s)) := fun x => by
    refine Ev.step (fun k => by rw [spec_WordSided.j1]) (Ev.neg (by simp) ?_)
    exact Ev.bind (spec_WordValid_ev s hs) (Ev.const rfl)
  have key : ∀ d i, s.size - i = d → i ≤ s.size → (WOK s → ∀ q, q < i → wsm s q ≠ wsm s (par s q)) → Ev (fun k => spec_WordSided.l0 k s (i : Nat)) (decide (WSD s)) := by
    intro d
    induction d with
    | zero =>
      intro i hd hi hq
      obtain rfl : i = s.size := by omega
      refine Ev.step (fun k => by rw [spec_WordSided.l0]) (Ev.neg (by omega) (Ev.to (hend _) ?_))
      rw [decide_eq_decide]
      exact ⟨fun h => ⟨h, hq h⟩, fun h => h.1⟩
    | succ d ih =>
      intro i hd hi hq
      refine Ev.step (fun k => by rw [spec_WordSided.l0]) (Ev.pos (by omega) ?_)
      refine Ev.bind (spec_WordValid_ev s hs) ?_
      by_cases h : WOK s
      · rw [decide_eq_true h]
        obtain ⟨p1, p2, p3, p4⟩ := par_spec h (i := i) (by omega)
        refine Ev.step (fun k => by rw [spec_WordSided.j1]) (Ev.pos rfl (Ev.pos (by omega) (Ev.pos (by omega) ?_)))
        refine Ev.bindc (spec_l8Small_eq _) (Ev.bind (spec_l8Partner_ev s hs h i (by omega)) (Ev.pos (by omega) (Ev.pos (by omega) (Ev.bindc (spec_l8Small_eq _) ?_))))
        refine Ev.ite (fun e => Ev.const ?_) (fun e => ?_)
        · rw [decide_eq_false]
          intro w
          exact w.2 i (by omega) (eq_of_beq e)
        · rw [wrap64_id (by omega) (by omega)]
          exact ih (i + 1) (by omega) (by omega) (fun h2 q hqi => by
            by_cases eq : q = i
            · subst eq; intro e2; exact e (beq_iff_eq.2 e2)
            · exact hq h2 q (by omega))
      · rw [decide_eq_false h, decide_eq_false (fun w : WSD s => h w.1)]
        exact Ev.to (hend _) (decide_eq_false h)
  unfold spec_WordSided.f
  exact key s.size 0 (by omega) (by omega) (fun _ q hq => by omega)
/-! ### spec_WordGluing -/
theorem spec_WordGluing_ev (s : ByteArray) (hs : s.size ≤ 1048576) : Ev (fun k => spec_WordGluing.f k s) (if WSD s then (pars s, true) else ([], false)) := by
  unfold spec_WordGluing.f
  by_cases hw : WSD s
  · rw [if_pos hw]
    have key : ∀ d i, s.size - i = d → i ≤ s.size → Ev (fun k => spec_WordGluing.l0 k s ((pars s).take i) (i : Nat)) (pars s, true) := by
      intro d
      induction d with
      | zero =>
        intro i hd hi
        obtain rfl : i = s.size := by omega
        refine Ev.step (fun k => by rw [spec_WordGluing.l0]) (Ev.neg (by omega) (Ev.bind (spec_WordSided_ev s hs) (Ev.const ?_)))
        rw [decide_eq_true hw, List.take_of_length_le (by rw [pars_length]; omega)]
      | succ d ih =>
        intro i hd hi
        refine Ev.step (fun k => by rw [spec_WordGluing.l0]) (Ev.pos (by omega) (Ev.bind (spec_WordSided_ev s hs) (Ev.pos (decide_eq_true hw) (Ev.bind (spec_l8Partner_ev s hs hw.1 i (by omega)) (Ev.pos ?_ ?_)))))
        · have := List.length_take_le i (pars s); omega
        · rw [wrap64_id (by omega) (by omega)]
          have := ih (i + 1) (by omega) (by omega)
          rw [List.take_succ_eq_append_getElem (by rw [pars_length]; omega)] at this
          have e : (pars s)[i]'(by rw [pars_length]; omega) = (par s i : Int) := by simp [pars]
          rw [e] at this; exact this
    exact key s.size 0 (by omega) (by omega)
  · rw [if_neg hw]
    refine Ev.step (fun k => by rw [spec_WordGluing.l0]) (Ev.ite (fun _ => ?_) (fun _ => ?_))
    · refine Ev.bind (spec_WordSided_ev s hs) (Ev.neg (by simp [hw]) (Ev.bind (spec_WordSided_ev s hs) (Ev.const ?_)))
      rw [decide_eq_false hw]
    · refine (Ev.bind (spec_WordSided_ev s hs) (Ev.const ?_))
      rw [decide_eq_false hw]
/-! ### impl_WordValid -/
theorem impl_WordValid_letter (x : Int) (h0 : 0 ≤ x) (h1 : x ≤ 255) : impl_WordValid.letter x = slet x := ilet_eq x h0 h1
theorem impl_WordValid_cnt (s : ByteArray) (c : Int) : ∀ k, k ≤ s.size → impl_WordValid.cnt s k c = (wcnt s c k : Nat) := by
  intro k
  induction k with
  | zero => intro _; rfl
  | succ k ih =>
    intro hk
    rw [impl_WordValid.cnt_succ s k (by omega) c, ih (by omega), impl_WordValid_letter _ (bt_rng _ _).1 (bt_rng _ _).2]
    simp only [wcnt, wl]
    by_cases e : slet (bt s (k : Int)) = c <;> simp [e]
theorem impl_WordValid_eq (s : ByteArray) : impl_WordValid.f s = some (decide (WOK s)) := by
  unfold impl_WordValid.f
  congr 1
  have hall : (impl_WordValid.letters s).all (fun n => decide (0 ≤ n)) = true ↔ ∀ i, i < s.size → 0 ≤ wl s i := by
    rw [List.all_eq_true]
    simp only [impl_WordValid.letters, List.mem_map, List.mem_range, decide_eq_true_eq]
    constructor
    · intro h i hi
      have := h _ ⟨i, hi, rfl⟩
      rwa [impl_WordValid_letter _ (bt_rng _ _).1 (bt_rng _ _).2] at this
    · rintro h x ⟨i, hi, rfl⟩
      rw [impl_WordValid_letter _ (bt_rng _ _).1 (bt_rng _ _).2]
      exact h i hi
  have hfine : ∀ c, impl_WordValid.fine s c = true ↔ (wcnt s c s.size = 0 ∨ wcnt s c s.size = 2) := by
    intro c
    unfold impl_WordValid.fine
    rw [impl_WordValid_cnt s c s.size (Nat.le_refl _), Bool.or_eq_true, beq_iff_eq, beq_iff_eq]
    omega
  rw [Bool.eq_iff_iff, decide_eq_true_eq]
  unfold impl_WordValid.val
  simp only [Bool.and_eq_true, decide_eq_true_eq]
  rw [hall, hfine, hfine, hfine, hfine, hfine]
  constructor
  · rintro ⟨h1, h2, h3, ⟨⟨⟨h4, h5⟩, h6⟩, h7⟩, h8⟩
    refine ⟨by omega, fun i hi => ⟨h3 i hi, ?_⟩⟩
    have hr := slet_range (bt s (i : Int))
    have h0 := h3 i hi
    have hn : wcnt s (wl s i) s.size ≠ 0 := fun e => wcnt_zero e i hi rfl
    have hc : wl s i = 0 ∨ wl s i = 1 ∨ wl s i = 2 ∨ wl s i = 3 ∨ wl s i = 4 := by unfold wl at *; omega
    rcases hc with e | e | e | e | e <;> rw [e] at hn ⊢ <;> omega
  · intro h
    have hc : ∀ c, wcnt s c s.size = 0 ∨ wcnt s c s.size = 2 := by
      intro c
      by_cases hz : wcnt s c s.size = 0
      · exact .inl hz
      · right
        obtain ⟨i, hi, hl⟩ : ∃ i, i < s.size ∧ wl s i = c := by
          refine Classical.byContradiction fun hno => hz ?_
          have : ∀ k, k ≤ s.size → wcnt s c k = 0 := by
            intro k
            induction k with
            | zero => intro _; rfl
            | succ k ih => intro hk; simp only [wcnt]; rw [ih (by omega), if_neg (fun e => hno ⟨k, by omega, e⟩)]
          exact this s.size (Nat.le_refl _)
        rw [← hl]; exact (h.2 i hi).2
    have hsum := wcnt_sum s s.size (fun i hi => (h.2 i hi).1)
    have c0 := hc 0
    have c1 := hc 1
    have c2 := hc 2
    have c3 := hc 3
    have c4 := hc 4
    have := h.1
    exact ⟨by omega, by omega, fun i hi => (h.2 i hi).1, ⟨⟨⟨c0, c1⟩, c2⟩, c3⟩, c4⟩
/-! ### impl_partnersOf -/
theorem impl_partnersOf_l1_ev (s : ByteArray) (hw : WOK s) (i : Nat) (hi : i < s.size) (x3 : List Int) (hx : x3.length = s.size) (r : List Int) (x10 x11 : Int)
    (hr : Ev (fun k => impl_partnersOf.l1 k s (x3.set i (par s i : Int)) i x10 x11 (s.size : Nat) (s.size : Nat)) r) :
    ∀ d j, s.size - j = d → j ≤ s.size → Ev (fun k => impl_partnersOf.l1 k s (if par s i < j then x3.set i (par s i : Int) else x3) i x10 x11 (s.size : Nat) (j : Nat)) r := by
  obtain ⟨p1, p2, p3, p4⟩ := par_spec hw hi
  have hz := hw.size
  intro d
  induction d with
  | zero =>
    intro j hd hj
    obtain rfl : j = s.size := by omega
    rw [if_pos p1]; exact hr
  | succ d ih =>
    intro j hd hj
    have := ih (j + 1) (by omega) (by omega)
    refine Ev.step (fun k => by rw [impl_partnersOf.l1]) (Ev.pos (by omega) ?_)
    rw [wrap64_id (x := (j : Int) + 1) (by omega) (by omega)]
    refine Ev.ite (fun e => ?_) (fun e => Ev.pos (by omega) (Ev.pos (by omega) (Ev.pos (by omega) (Ev.pos (by omega) ?_))))
    · have e2 : (par s i < j + 1) = (par s i < j) := by apply propext; omega
      simp only [e2] at this; exact this
    · refine Ev.ite (fun e3 => ?_) (fun e3 => ?_)
      · rw [or_eq _ _ (bt_rng _ _).1 (bt_rng _ _).2 (bt_rng _ _).1 (bt_rng _ _).2 (hw.2 i hi).1 (hw.2 j (by omega)).1] at e3
        have e4 := p4 j (by omega) (by omega) e3.symm
        rw [if_pos (by omega)] at this
        rw [if_neg (by omega)]
        refine Ev.pos (by omega) ?_
        rw [← e4] at this
        exact this
      · rw [or_eq _ _ (bt_rng _ _).1 (bt_rng _ _).2 (bt_rng _ _).1 (bt_rng _ _).2 (hw.2 i hi).1 (hw.2 j (by omega)).1] at e3
        have e4 : par s i ≠ j := fun q => e3 (by rw [← q]; exact p3.symm)
        have e2 : (par s i < j + 1) = (par s i < j) := by apply propext; omega
        simp only [e2] at this; exact this
theorem impl_partnersOf_ev (s : ByteArray) (hw : WOK s) : Ev (fun k => impl_partnersOf.f k s) (pars s) := by
  have hz := hw.size
  have key : ∀ d i, s.size - i = d → i ≤ s.size → ∀ x3 : List Int, x3.length = s.size → (∀ q, q < i → x3[q]? = some (par s q : Int)) → Ev (fun k => impl_partnersOf.l0 k s x3 (s.size : Nat) (i : Nat)) (pars s) := by
    intro d
    induction d with
    | zero =>
      intro i hd hi x3 hx hq
      obtain rfl : i = s.size := by omega
      refine Ev.step (fun k => by rw [impl_partnersOf.l0]) (Ev.neg (by omega) (Ev.const ?_))
      congr 1
      apply List.ext_getElem? 
      intro q
      by_cases h : q < s.size
      · rw [hq q h]; simp [pars, h]
      · rw [List.getElem?_eq_none (by omega), List.getElem?_eq_none (by rw [pars_length]; omega)]
    | succ d ih =>
      intro i hd hi x3 hx hq
      refine Ev.step (fun k => by rw [impl_partnersOf.l0]) (Ev.pos (by omega) ?_)
      have := impl_partnersOf_l1_ev s hw i (by omega) x3 hx (pars s) (s.size : Nat) (i : Nat) ?_ s.size 0 (by omega) (by omega)
      · rw [if_neg (by omega)] at this; exact this
      · refine Ev.step (fun k => by rw [impl_partnersOf.l1]) (Ev.neg (by omega) ?_)
        rw [wrap64_id (by omega) (by omega)]
        refine ih (i + 1) (by omega) (by omega) _ (by simp [hx]) (fun q hqi => ?_)
        by_cases e : q = i
        · subst e; rw [List.getElem?_set_self (by omega)]
        · rw [List.getElem?_set_ne (by omega)]; exact hq q (by omega)
  unfold impl_partnersOf.f
  refine Ev.pos (by omega) (Ev.pos (by omega) ?_)
  exact key s.size 0 (by omega) (by omega) _ (by simp) (fun q hq => by omega)
/-! ### impl_WordSided -/
theorem impl_WordSided_ev (s : ByteArray) : Ev (fun k => impl_WordSided.f k s) (decide (WSD s)) := by
  unfold impl_WordSided.f
  refine Ev.bindc (impl_WordValid_eq s) ?_
  by_cases hw : WOK s
  · have hz := hw.size
    rw [decide_eq_true hw]
    refine Ev.pos rfl (Ev.bind (impl_partnersOf_ev s hw) ?_)
    rw [pars_length]
    have key : ∀ d i, s.size - i = d → i ≤ s.size → (∀ q, q < i → wsm s q ≠ wsm s (par s q)) → Ev (fun k => impl_WordSided.l0 k s (pars s) (s.size : Nat) (i : Nat)) (decide (WSD s)) := by
      intro d
      induction d with
      | zero =>
        intro i hd hi hq
        obtain rfl : i = s.size := by omega
        refine Ev.step (fun k => by rw [impl_WordSided.l0]) (Ev.neg (by omega) (Ev.const ?_))
        rw [decide_eq_true (show WSD s from ⟨hw, hq⟩)]
      | succ d ih =>
        intro i hd hi hq
        obtain ⟨p1, p2, p3, p4⟩ := par_spec hw (i := i) (by omega)
        refine Ev.step (fun k => by rw [impl_WordSided.l0]) (Ev.pos (by omega) (Ev.pos (by omega) (Ev.pos (by rw [pars_length]; omega) (Ev.pos (by omega) ?_))))
        rw [rd_pars s i (by omega)]
        refine Ev.pos (by omega) (Ev.pos (by omega) (Ev.ite (fun e => Ev.const ?_) (fun e => ?_)))
        · rw [decide_eq_false]
          intro w
          exact w.2 i (by omega) ((bt_same hw (by omega)).1 e)
        · rw [wrap64_id (by omega) (by omega)]
          exact ih (i + 1) (by omega) (by omega) (fun q hqi => by
            by_cases eq : q = i
            · subst eq; exact fun e2 => e ((bt_same hw (by omega)).2 e2)
            · exact hq q (by omega))
    exact key s.size 0 (by omega) (by omega) (fun q hq => by omega)
  · rw [decide_eq_false hw, decide_eq_false (fun w : WSD s => hw w.1)]
    exact Ev.neg (by simp) (Ev.const rfl)
/-! ### impl_WordGluing -/
theorem impl_WordGluing_ev (s : ByteArray) : Ev (fun k => impl_WordGluing.f k s) (if WSD s then (pars s, true) else ([], false)) := by
  unfold impl_WordGluing.f
  refine Ev.bind (impl_WordSided_ev s) ?_
  by_cases hw : WSD s
  · rw [if_pos hw]
    exact Ev.pos (decide_eq_true hw) (Ev.bind (impl_partnersOf_ev s hw.1) (Ev.const rfl))
  · rw [if_neg hw]
    exact Ev.neg (by simp [hw]) (Ev.const rfl)
/-! ### laws_eqIntS -/
theorem laws_eqIntS_ev (l m : List Int) (hl : l.length ≤ 4611686018427387904) : Ev (fun k => laws_eqIntS.f k l m) (decide (l = m)) := by
  unfold laws_eqIntS.f
  refine Ev.ite (fun h => ?_) (fun h => Ev.const ?_)
  · have h' : l.length = m.length := by omega
    have key : ∀ d i, l.length - i = d → i ≤ l.length → (∀ q : Nat, q < i → rd l (q : Int) = rd m (q : Int)) → Ev (fun k => laws_eqIntS.l0 k l m (i : Nat)) (decide (l = m)) := by
      intro d
      induction d with
      | zero =>
        intro i hd hi hq
        refine Ev.step (fun k => by rw [laws_eqIntS.l0]) (Ev.neg (by omega) (Ev.const ?_))
        rw [decide_eq_true (list_ext_rd h' (fun q hq' => hq q (by omega)))]
      | succ d ih =>
        intro i hd hi hq
        refine Ev.step (fun k => by rw [laws_eqIntS.l0]) (Ev.pos (by omega) (Ev.pos (by omega) (Ev.pos (by omega) (Ev.ite (fun e => ?_) (fun e => Ev.const ?_)))))
        · rw [wrap64_id (by omega) (by omega)]
          exact ih (i + 1) (by omega) (by omega) (fun q hqi => by
            by_cases eq : q = i
            · subst eq; exact e
            · exact hq q (by omega))
        · rw [decide_eq_false]
          intro w; subst w; exact e rfl
    exact key l.length 0 (by omega) (by omega) (fun q hq => by omega)
  · rw [decide_eq_false]
    intro w; subst w; exact h rfl
/-! ### laws_markIntS -/
theorem laws_markIntS_ev (l : List Int) (a : Int) (h0 : 0 ≤ a) (hl : a + l.length ≤ 4611686018427387904) : Ev (fun k => laws_markIntS.f k l a) (a + (l.length : Int), marks a l.length) := by
  have key : ∀ d i, l.length - i = d → i ≤ l.length → ∀ m : List Int, m.length = l.length → (∀ q : Nat, q < i → m[q]? = some (a + (q : Int))) → Ev (fun k => laws_markIntS.l0 k m (a + (i : Int)) (i : Nat)) (a + (l.length : Int), marks a l.length) := by
    intro d
    induction d with
    | zero =>
      intro i hd hi m hm hq
      obtain rfl : i = l.length := by omega
      refine Ev.step (fun k => by rw [laws_markIntS.l0]) (Ev.neg (by omega) (Ev.const ?_))
      congr 2
      refine list_ext_rd (by rw [marks_length, hm]) (fun q hq' => ?_)
      rw [rd_marks a _ q (by omega), rd_get? _ _ _ (hq q (by omega))]
    | succ d ih =>
      intro i hd hi m hm hq
      refine Ev.step (fun k => by rw [laws_markIntS.l0]) (Ev.pos (by omega) (Ev.pos (by omega) ?_))
      rw [wrap64_id (by omega) (by omega), wrap64_id (by omega) (by omega)]
      have := ih (i + 1) (by omega) (by omega) (m.set i (a + (i : Int))) (by simp [hm]) (fun q hqi => by
        by_cases eq : q = i
        · subst eq; rw [List.getElem?_set_self (by omega)]
        · rw [List.getElem?_set_ne (by omega)]; exact hq q (by omega))
      rw [show a + ((i + 1 : Nat) : Int) = a + (i : Int) + 1 by omega] at this
      exact this
  have := key l.length 0 (by omega) (by omega) l rfl (fun q hq => by omega)
  unfold laws_markIntS.f
  rw [show a + ((0 : Nat) : Int) = a by omega] at this
  exact this
/-! ### laws_heldIntS -/
theorem laws_heldIntS_ev (n : Nat) (a : Int) (h0 : 0 ≤ a) (hl : a + n ≤ 4611686018427387904) : Ev (fun k => laws_heldIntS.f k (marks a n) a) (a + (n : Int)) := by
  have key : ∀ d i, n - i = d → i ≤ n → Ev (fun k => laws_heldIntS.l0 k (marks a n) (a + (i : Int)) (i : Nat)) (a + (n : Int)) := by
    intro d
    induction d with
    | zero =>
      intro i hd hi
      obtain rfl : i = n := by omega
      exact Ev.step (fun k => by rw [laws_heldIntS.l0]) (Ev.neg (by rw [marks_length]; omega) (Ev.const rfl))
    | succ d ih =>
      intro i hd hi
      refine Ev.step (fun k => by rw [laws_heldIntS.l0]) (Ev.pos (by rw [marks_length]; omega) (Ev.pos (by omega) (Ev.pos (rd_marks a n i (by omega)) ?_)))
      rw [wrap64_id (by omega) (by omega), wrap64_id (by omega) (by omega)]
      have := ih (i + 1) (by omega) (by omega)
      rw [show a + ((i + 1 : Nat) : Int) = a + (i : Int) + 1 by omega] at this
      exact this
  have := key n 0 (by omega) (by omega)
  unfold laws_heldIntS.f
  rw [show a + ((0 : Nat) : Int) = a by omega] at this
  exact this
/-! ### The law -/
theorem FnExactWordGluing : laws_FnExactWordGluing.Pure := by
  intro s hs
  refine Ev.rounds ?_
  unfold laws_FnExactWordGluing.f
  refine Ev.ite (fun _ => Ev.const rfl) (fun h => ?_)
  have hg := impl_WordGluing_ev s
  refine Ev.bind (spec_WordGluing_ev s (by omega)) (Ev.bind hg ?_)
  generalize hv : (if WSD s then (pars s, true) else ([], false)) = v at *
  have hl : v.1.length ≤ 1048576 := by
    subst hv; split
    · rw [pars_length]; omega
    · simp
  have heq := laws_eqIntS_ev v.1 v.1 (by omega)
  rw [decide_eq_true rfl] at heq
  refine Ev.bind heq (Ev.pos rfl ?_)
  refine Ev.step (fun k => by rw [laws_FnExactWordGluing.j0]) (Ev.neg (by simp) ?_)
  refine Ev.bind (laws_markIntS_ev v.1 1 (by omega) (by omega)) ?_
  refine Ev.bind (laws_heldIntS_ev v.1.length 1 (by omega) (by omega)) ?_
  refine Ev.neg (by omega) ?_
  refine Ev.pos rfl ?_
  refine Ev.bind hg ?_
  refine Ev.bind heq ?_
  refine Ev.pos rfl ?_
  refine Ev.step (fun k => by rw [laws_FnExactWordGluing.j1]) (Ev.neg (by simp) ?_)
  refine Ev.bind (laws_heldIntS_ev v.1.length 1 (by omega) (by omega)) ?_
  refine Ev.neg (by omega) ?_
  exact Ev.pos rfl (Ev.const rfl)

end Go.Proofs.Ytdbglmnialieoaa.Pure
