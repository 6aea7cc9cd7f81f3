/- The law FnExactWordCut holds for every input. -/
import Derived.Test.YtdbglmnialieoaaPFnExactWordCutx5
import Derived.Test.YtdbglmnialieoaaM0
import Derived.Test.YtdbglmnialieoaaMN
import Derived.Test.YtdbglmnialieoaaMC
set_option linter.unusedVariables false
set_option linter.unusedSimpArgs false
namespace Go.Proofs.Ytdbglmnialieoaa.Pure
open Go.RowKit Go.Proofs.Ytdbglmnialieoaa.PFnExactWordCut Go.Proofs.YtdbglmnialieoaaW.PrintWords Go.Proofs.YtdbglmnialieoaaW.PrintLast Go.Proofs.Ytdbglmnialieoaa.M

/-! ### spec_l8Letter -/
theorem spec_l8Letter_ev (x : Int) (h0 : 0 ≤ x) (h1 : x ≤ 255) : Ev (fun k => spec_l8Letter.f k x) (slet x) := by
  have hj : ∀ b, Ev (fun k => spec_l8Letter.j0 k x b) (if b = true then (x - 97) % 256 else if x ≥ 65 then if x < 70 then (x - 65) % 256 else -1 else -1) := by
    intro b
    refine Ev.step (fun k => by rw [spec_l8Letter.j0]) ?_
    refine Ev.const ?_
    repeat' split
    all_goals rfl
  unfold spec_l8Letter.f slet
  refine Ev.ite (fun h => Ev.to (hj _) ?_) (fun h => Ev.to (hj _) ?_)
  · by_cases h2 : x < 102 <;> simp [h2] <;> omega
  · simp
    split <;> split <;> omega
/-! ### spec_WordValid -/
theorem spec_WordValid_l1_ev (s : ByteArray) (hs : s.size ≤ 1048576) (i : Nat) (hi : i < s.size) (r : Bool) (hr : Ev (fun k => spec_WordValid.l1 k s i (wcnt s (wl s i) s.size : Nat) (s.size : Nat)) r) :
    ∀ d j, s.size - j = d → j ≤ s.size → Ev (fun k => spec_WordValid.l1 k s i (wcnt s (wl s i) j : Nat) (j : Nat)) r := by
  intro d
  induction d with
  | zero => intro j hd hj; obtain rfl : j = s.size := by omega
            exact hr
  | succ d ih =>
    intro j hd hj
    have hb := wcnt_le s (wl s i) j
    refine Ev.step (fun k => by rw [spec_WordValid.l1]) ?_
    refine Ev.pos (by omega) (Ev.pos (by omega) ?_)
    refine Ev.bind (spec_l8Letter_ev _ (bt_rng _ _).1 (bt_rng _ _).2) (Ev.pos (by omega) (Ev.pos (by omega) ?_))
    refine Ev.bind (spec_l8Letter_ev _ (bt_rng _ _).1 (bt_rng _ _).2) ?_
    have := ih (j + 1) (by omega) (by omega)
    rw [wrap64_id (x := (j : Int) + 1) (by omega) (by omega)]
    refine Ev.ite (fun h => ?_) (fun h => ?_)
    · rw [wrap64_id (by omega) (by omega)]
      have e : wcnt s (wl s i) (j + 1) = wcnt s (wl s i) j + 1 := by simp only [wcnt]; exact congrArg (wcnt s (wl s i) j + ·) (if_pos h)
      rw [e] at this; exact this
    · have e : wcnt s (wl s i) (j + 1) = wcnt s (wl s i) j := by simp only [wcnt]; exact congrArg (wcnt s (wl s i) j + ·) (if_neg h)
      rw [e] at this; exact this
theorem spec_WordValid_ev (s : ByteArray) (hs : s.size ≤ 1048576) : Ev (fun k => spec_WordValid.f k s) (decide (WOK s)) := by
  have key : ∀ d i, s.size - i = d → i ≤ s.size → (∀ q, q < i → 0 ≤ wl s q ∧ wcnt s (wl s q) s.size = 2) → Ev (fun k => spec_WordValid.l0 k s (i : Nat)) (decide (WOK s)) := by
    intro d
    induction d with
    | zero =>
      intro i hd hi hq
      obtain rfl : i = s.size := by omega
      refine Ev.step (fun k => by rw [spec_WordValid.l0]) (Ev.neg (by omega) (Ev.const ?_))
      congr 1
      rw [decide_eq_decide]
      exact ⟨fun h => ⟨by omega, hq⟩, fun h => by have := h.1; omega⟩
    | succ d ih =>
      intro i hd hi hq
      refine Ev.step (fun k => by rw [spec_WordValid.l0]) (Ev.pos (by omega) ?_)
      refine spec_WordValid_l1_ev s hs i (by omega) _ ?_ s.size 0 (by omega) (by omega)
      refine Ev.step (fun k => by rw [spec_WordValid.l1]) (Ev.neg (by omega) (Ev.pos (by omega) (Ev.pos (by omega) ?_)))
      refine Ev.bind (spec_l8Letter_ev _ (bt_rng _ _).1 (bt_rng _ _).2) ?_
      have hn : ∀ h : ¬ (0 ≤ wl s i ∧ wcnt s (wl s i) s.size = 2), some false = some (decide (WOK s)) := fun h => by
        rw [decide_eq_false (fun w => h (w.2 i (by omega)))]
      refine Ev.ite (fun h => Ev.const (hn (fun a => by have := a.1; simp only [wl] at this; omega))) (fun h => ?_)
      refine Ev.ite (fun h2 => ?_) (fun h2 => Ev.const (hn (fun a => h2 (by have := a.2; omega))))
      rw [wrap64_id (by omega) (by omega)]
      exact ih (i + 1) (by omega) (by omega) (fun q hqi => by
        by_cases e : q = i
        · subst e; exact ⟨by simp only [wl]; omega, by omega⟩
        · exact hq q (by omega))
  unfold spec_WordValid.f
  exact key s.size 0 (by omega) (by omega) (fun q hq => by omega)
/-! ### spec_l8Small -/
theorem spec_l8Small_eq (x : Int) : spec_l8Small.f x = some (decide (x ≥ 97)) := rfl
/-! ### spec_l8Partner -/
theorem spec_l8Partner_ev (s : ByteArray) (hs : s.size ≤ 1048576) (h : WOK s) (i : Nat) (hi : i < s.size) : Ev (fun k => spec_l8Partner.f k s (i : Nat)) (par s i : Nat) := by
  obtain ⟨p1, p2, p3, p4⟩ := par_spec h hi
  have key : ∀ d j, par s i - j = d → j ≤ par s i → Ev (fun k => spec_l8Partner.l0 k s (i : Nat) (j : Nat)) (par s i : Nat) := by
    intro d
    induction d with
    | zero =>
      intro j hd hj
      obtain rfl : j = par s i := by omega
      refine Ev.step (fun k => by rw [spec_l8Partner.l0]) (Ev.pos (by omega) (Ev.neg (by omega) (Ev.pos (by omega) ?_)))
      refine Ev.bind (spec_l8Letter_ev _ (bt_rng _ _).1 (bt_rng _ _).2) (Ev.pos (by omega) (Ev.pos (by omega) ?_))
      refine Ev.bind (spec_l8Letter_ev _ (bt_rng _ _).1 (bt_rng _ _).2) (Ev.pos p3 (Ev.const rfl))
    | succ d ih =>
      intro j hd hj
      have := ih (j + 1) (by omega) (by omega)
      refine Ev.step (fun k => by rw [spec_l8Partner.l0]) (Ev.pos (by omega) ?_)
      rw [wrap64_id (x := (j : Int) + 1) (by omega) (by omega)]
      refine Ev.ite (fun _ => this) (fun hne => Ev.pos (by omega) ?_)
      refine Ev.bind (spec_l8Letter_ev _ (bt_rng _ _).1 (bt_rng _ _).2) (Ev.pos (by omega) (Ev.pos (by omega) ?_))
      refine Ev.bind (spec_l8Letter_ev _ (bt_rng _ _).1 (bt_rng _ _).2) (Ev.neg (fun e => ?_) this)
      have := p4 j (by omega) (by omega) e
      omega
  unfold spec_l8Partner.f
  exact key (par s i) 0 (by omega) (by omega)
/-! ### spec_l6In -/
theorem spec_l6In_eq (a b c : Int) : spec_l6In.f a b c = some (decide (b ≤ a ∧ a ≤ c)) := by
  unfold spec_l6In.f
  by_cases h : a ≥ b
  · rw [if_pos h]
    congr 1
    rw [decide_eq_decide]
    omega
  · rw [if_neg h, decide_eq_false (by omega)]
/-! ### spec_l8Name -/
theorem spec_l8Name_eq (n : Int) (b : Bool) (h0 : 0 ≤ n) (h1 : n < 100) : spec_l8Name.f n b = some (strOfNums [if b = true then 97 + n else 65 + n]) := by
  unfold spec_l8Name.f
  rw [wrap64_id (x := 97 + n) (by omega) (by omega), wrap64_id (x := 65 + n) (by omega) (by omega), Int.emod_eq_of_lt (a := 97 + n) (by omega) (by omega), Int.emod_eq_of_lt (a := 65 + n) (by omega) (by omega)]
  cases b <;> rfl
/-! ### spec_l8Other -/
theorem spec_l8Other_ev (x : Int) (h0 : 0 ≤ x) (h1 : x ≤ 255) (hx : 0 ≤ slet x) : Ev (fun k => spec_l8Other.f k x) (strOfNums [fl x]) := by
  have hr := slet_range x
  unfold spec_l8Other.f
  refine Ev.bind (spec_l8Letter_ev x h0 h1) ?_
  refine Ev.bindc (spec_l8Small_eq _) ?_
  refine Ev.bindc (spec_l8Name_eq _ _ hx (by omega)) ?_
  refine Ev.const ?_
  congr 3
  unfold fl slet at *
  by_cases e : x ≥ 97
  · simp [e] at hx ⊢
    split at hx <;> simp_all <;> omega
  · simp [e] at hx ⊢
    split at hx <;> simp_all <;> omega
/-! ### spec_l8Back -/
theorem spec_l8Back_ev (t : ByteArray) (ht : t.size ≤ 1048576) (ha : AllLet t) : Ev (fun k => spec_l8Back.f k t) (backS t) := by
  have key : ∀ r, r ≤ t.size → Ev (fun k => spec_l8Back.l0 k t (strOfNums (backN t (t.size - r))) ((r : Int) - 1)) (backS t) := by
    intro r
    induction r with
    | zero =>
      intro _
      refine Ev.step (fun k => by rw [spec_l8Back.l0]) ?_
      refine Ev.neg (by omega) ?_
      exact Ev.const rfl
    | succ r ih =>
      intro hr
      refine Ev.step (fun k => by rw [spec_l8Back.l0]) (Ev.pos (by omega) (Ev.pos (by omega) (Ev.pos (by omega) ?_)))
      rw [show ((r + 1 : Nat) : Int) - 1 = (r : Int) by omega]
      refine Ev.bind (spec_l8Other_ev _ (bt_rng _ _).1 (bt_rng _ _).2 (ha r (by omega))) ?_
      refine Ev.pos (by rw [strOfNums_size, strOfNums_size]; simp [backN]; omega) ?_
      rw [wrap64_id (by omega) (by omega)]
      have := ih (by omega)
      rw [show t.size - r = (t.size - (r + 1)) + 1 by omega, backN_succ, strOfNums_append, show t.size - 1 - (t.size - (r + 1)) = r by omega] at this
      exact this
  have := key t.size (Nat.le_refl _)
  unfold spec_l8Back.f
  rw [wrap64_id (by omega) (by omega)]
  rw [Nat.sub_self] at this
  exact this
/-! ### spec_WordCut -/
theorem spec_WordCut_ev (s : ByteArray) (hs : s.size ≤ 1048576) (i k : Int) : Ev (fun n => spec_WordCut.f n s i k) (cutV s i k) := by
  have hno : ¬ CutOK s i k → Ev (fun n => spec_WordCut.j0 n s i k true) (cutV s i k) := fun h => by
    unfold cutV; rw [if_neg h]
    exact Ev.step (fun n => by rw [spec_WordCut.j0]) (Ev.pos rfl (Ev.const rfl))
  unfold spec_WordCut.f
  refine Ev.bind (spec_WordValid_ev s hs) ?_
  refine Ev.ite (fun hw => ?_) (fun h => hno (fun w => h (decide_eq_true w.1)))
  replace hw := of_decide_eq_true hw
  have hz := hw.size
  rw [wrap64_id (x := (s.size : Int) - 1) (by omega) (by omega)]
  refine Ev.bindc (spec_l6In_eq _ _ _) ?_
  refine Ev.ite (fun h1 => ?_) (fun h => hno (fun w => h (decide_eq_true ⟨w.2.1, by have := w.2.2.1; omega⟩)))
  replace h1 := of_decide_eq_true h1
  rw [wrap64_id (x := i - 1) (by omega) (by omega)]
  refine Ev.bindc (spec_l6In_eq _ _ _) ?_
  refine Ev.ite (fun h2 => ?_) (fun h => hno (fun w => h (decide_eq_true ⟨w.2.2.2.1, by have := w.2.2.2.2.1; omega⟩)))
  replace h2 := of_decide_eq_true h2
  obtain ⟨i, rfl⟩ := Int.eq_ofNat_of_zero_le (show 0 ≤ i by omega)
  obtain ⟨k, rfl⟩ := Int.eq_ofNat_of_zero_le h2.1
  refine Ev.bind (spec_l8Partner_ev s hs hw k (by omega)) ?_
  obtain ⟨p1, p2, p3, p4⟩ := par_spec hw (i := k) (by omega)
  by_cases h3 : (par s k : Int) < i
  · rw [decide_eq_true h3]
    exact hno (fun w => by have := w.2.2.2.2.2; simp only [toNat_nat] at this; omega)
  · rw [decide_eq_false h3]
    have hok : CutOK s i k := ⟨hw, by omega, by omega, by omega, by omega, by simp only [toNat_nat]; omega⟩
    have hl : slet (bt s (k : Int)) = wl s k := rfl
    have h0 := (hw.2 k (by omega)).1
    have hr := slet_range (bt s (k : Int))
    rw [hl] at hr
    have hra := rest_all hw i k (by omega)
    have hv : cutV s i k = (cutS s i k, true) := by unfold cutV; rw [if_pos hok]; rfl
    rw [hv]
    refine Ev.step (fun n => by rw [spec_WordCut.j0]) (Ev.neg (by simp) ?_)
    refine Ev.bind (spec_l8Partner_ev s hs hw k (by omega)) ?_
    refine Ev.pos (by omega) (Ev.pos (by omega) ?_)
    refine Ev.bind (spec_l8Letter_ev _ (bt_rng _ _).1 (bt_rng _ _).2) ?_
    rw [hl, wrap64_id (x := (k : Int) + 1) (by omega) (by omega), wrap64_id (x := (par s k : Int) + 1) (by omega) (by omega)]
    have e1 : ((k : Int) + 1).toNat = k + 1 := by omega
    have e2 : ((par s k : Int) + 1).toNat = par s k + 1 := by omega
    simp only [e1, e2, toNat_nat]
    refine Ev.pos (by omega) (Ev.pos (by omega) (Ev.pos (by omega) (Ev.pos (by omega) ?_)))
    refine Ev.bindc (spec_l8Name_eq _ _ h0 (by omega)) ?_
    simp only [if_true]
    have z1 : ∀ x : Int, (strOfNums [x]).size = 1 := fun x => strOfNums_size _
    have z2 : ∀ a b, (s.extract a b).size ≤ 10 := fun a b => by rw [ByteArray.size_extract]; omega
    refine Ev.pos (by have := z2 (k + 1) i; rw [z1]; omega) (Ev.pos (by have := z2 (k + 1) i; have := z2 0 k; rw [ByteArray.size_append, z1]; omega) ?_)
    refine Ev.pos (by omega) (Ev.pos (by omega) ?_)
    refine Ev.bindc (spec_l8Name_eq _ _ h0 (by omega)) ?_
    simp only [Bool.false_eq_true, if_false]
    refine Ev.pos (by have := z2 (par s k + 1) s.size; rw [z1]; omega) ?_
    refine Ev.pos (by omega) (Ev.pos (by omega) (Ev.pos (by omega) ?_))
    refine Ev.pos (by have := z2 (par s k + 1) s.size; have := z2 i (par s k); rw [ByteArray.size_append, z1]; omega) ?_
    refine Ev.bindc (spec_l8Small_eq _) (Ev.pos (by omega) (Ev.pos (by omega) ?_))
    refine Ev.bindc (spec_l8Small_eq _) ?_
    have zr : ((s.extract (par s k + 1) s.size ++ strOfNums [65 + wl s k]) ++ s.extract i (par s k)).size ≤ 21 := by
      have := z2 (par s k + 1) s.size; have := z2 i (par s k); rw [ByteArray.size_append, ByteArray.size_append, z1]; omega
    have zf : ((s.extract (k + 1) i ++ strOfNums [97 + wl s k]) ++ s.extract 0 k).size ≤ 21 := by
      have := z2 (k + 1) i; have := z2 0 k; rw [ByteArray.size_append, ByteArray.size_append, z1]; omega
    refine Ev.ite (fun e => ?_) (fun e => ?_)
    · have e' : wsm s k = wsm s (par s k) := eq_of_beq e
      refine Ev.bind (spec_l8Back_ev _ (by omega) hra) ?_
      refine Ev.pos ?_ (Ev.const ?_)
      · have : (backS ((s.extract (par s k + 1) s.size ++ strOfNums [65 + wl s k]) ++ s.extract i (par s k))).size ≤ 21 := by
          unfold backS; rw [strOfNums_size]; simp [backN]; simpa using zr
        omega
      · unfold cutS; rw [if_pos e']
    · have e' : ¬ wsm s k = wsm s (par s k) := fun h => e (beq_iff_eq.2 h)
      refine Ev.pos (by omega) (Ev.const ?_)
      unfold cutS; rw [if_neg e']
/-! ### impl_WordValid -/
theorem impl_WordValid_letter (x : Int) (h0 : 0 ≤ x) (h1 : x ≤ 255) : impl_WordValid.letter x = slet x := ilet_eq x h0 h1
theorem impl_WordValid_cnt (s : ByteArray) (c : Int) : ∀ k, k ≤ s.size → impl_WordValid.cnt s k c = (wcnt s c k : Nat) := by
  intro k
  induction k with
  | zero => intro _; rfl
  | succ k ih =>
    intro hk
    rw [impl_WordValid.cnt_succ s k (by omega) c, ih (by omega), impl_WordValid_letter _ (bt_rng _ _).1 (bt_rng _ _).2]
    simp only [wcnt, wl]
    by_cases e : slet (bt s (k : Int)) = c <;> simp [e]
theorem impl_WordValid_eq (s : ByteArray) : impl_WordValid.f s = some (decide (WOK s)) := by
  unfold impl_WordValid.f
  congr 1
  have hall : (impl_WordValid.letters s).all (fun n => decide (0 ≤ n)) = true ↔ ∀ i, i < s.size → 0 ≤ wl s i := by
    rw [List.all_eq_true]
    simp only [impl_WordValid.letters, List.mem_map, List.mem_range, decide_eq_true_eq]
    constructor
    · intro h i hi
      have := h _ ⟨i, hi, rfl⟩
      rwa [impl_WordValid_letter _ (bt_rng _ _).1 (bt_rng _ _).2] at this
    · rintro h x ⟨i, hi, rfl⟩
      rw [impl_WordValid_letter _ (bt_rng _ _).1 (bt_rng _ _).2]
      exact h i hi
  have hfine : ∀ c, impl_WordValid.fine s c = true ↔ (wcnt s c s.size = 0 ∨ wcnt s c s.size = 2) := by
    intro c
    unfold impl_WordValid.fine
    rw [impl_WordValid_cnt s c s.size (Nat.le_refl _), Bool.or_eq_true, beq_iff_eq, beq_iff_eq]
    omega
  rw [Bool.eq_iff_iff, decide_eq_true_eq]
  unfold impl_WordValid.val
  simp only [Bool.and_eq_true, decide_eq_true_eq]
  rw [hall, hfine, hfine, hfine, hfine, hfine]
  constructor
  · rintro ⟨h1, h2, h3, ⟨⟨⟨h4, h5⟩, h6⟩, h7⟩, h8⟩
    refine ⟨by omega, fun i hi => ⟨h3 i hi, ?_⟩⟩
    have hr := slet_range (bt s (i : Int))
    have h0 := h3 i hi
    have hn : wcnt s (wl s i) s.size ≠ 0 := fun e => wcnt_zero e i hi rfl
    have hc : wl s i = 0 ∨ wl s i = 1 ∨ wl s i = 2 ∨ wl s i = 3 ∨ wl s i = 4 := by unfold wl at *; omega
    rcases hc with e | e | e | e | e <;> rw [e] at hn ⊢ <;> omega
  · intro h
    have hc : ∀ c, wcnt s c s.size = 0 ∨ wcnt s c s.size = 2 := by
      intro c
      by_cases hz : wcnt s c s.size = 0
      · exact .inl hz
      · right
        obtain ⟨i, hi, hl⟩ : ∃ i, i < s.size ∧ wl s i = c := by
          refine Classical.byContradiction fun hno => hz ?_
          have : ∀ k, k ≤ s.size → wcnt s c k = 0 := by
            intro k
            induction k with
            | zero => intro _; rfl
            | succ k ih => intro hk; simp only [wcnt]; rw [ih (by omega), if_neg (fun e => hno ⟨k, by omega, e⟩)]
          exact this s.size (Nat.le_refl _)
        rw [← hl]; exact (h.2 i hi).2
    have hsum := wcnt_sum s s.size (fun i hi => (h.2 i hi).1)
    have c0 := hc 0
    have c1 := hc 1
    have c2 := hc 2
    have c3 := hc 3
    have c4 := hc 4
    have := h.1
    exact ⟨by omega, by omega, fun i hi => (h.2 i hi).1, ⟨⟨⟨c0, c1⟩, c2⟩, c3⟩, c4⟩
/-! ### impl_partnersOf -/
theorem impl_partnersOf_l1_ev (s : ByteArray) (hw : WOK s) (i : Nat) (hi : i < s.size) (x3 : List Int) (hx : x3.length = s.size) (r : List Int) (x10 x11 : Int)
    (hr : Ev (fun k => impl_partnersOf.l1 k s (x3.set i (par s i : Int)) i x10 x11 (s.size : Nat) (s.size : Nat)) r) :
    ∀ d j, s.size - j = d → j ≤ s.size → Ev (fun k => impl_partnersOf.l1 k s (if par s i < j then x3.set i (par s i : Int) else x3) i x10 x11 (s.size : Nat) (j : Nat)) r := by
  obtain ⟨p1, p2, p3, p4⟩ := par_spec hw hi
  have hz := hw.size
  intro d
  induction d with
  | zero =>
    intro j hd hj
    obtain rfl : j = s.size := by omega
    rw [if_pos p1]; exact hr
  | succ d ih =>
    intro j hd hj
    have := ih (j + 1) (by omega) (by omega)
    refine Ev.step (fun k => by rw [impl_partnersOf.l1]) (Ev.pos (by omega) ?_)
    rw [wrap64_id (x := (j : Int) + 1) (by omega) (by omega)]
    refine Ev.ite (fun e => ?_) (fun e => Ev.pos (by omega) (Ev.pos (by omega) (Ev.pos (by omega) (Ev.pos (by omega) ?_))))
    · have e2 : (par s i < j + 1) = (par s i < j) := by apply propext; omega
      simp only [e2] at this; exact this
    · refine Ev.ite (fun e3 => ?_) (fun e3 => ?_)
      · rw [or_eq _ _ (bt_rng _ _).1 (bt_rng _ _).2 (bt_rng _ _).1 (bt_rng _ _).2 (hw.2 i hi).1 (hw.2 j (by omega)).1] at e3
        have e4 := p4 j (by omega) (by omega) e3.symm
        rw [if_pos (by omega)] at this
        rw [if_neg (by omega)]
        refine Ev.pos (by omega) ?_
        rw [← e4] at this
        exact this
      · rw [or_eq _ _ (bt_rng _ _).1 (bt_rng _ _).2 (bt_rng _ _).1 (bt_rng _ _).2 (hw.2 i hi).1 (hw.2 j (by omega)).1] at e3
        have e4 : par s i ≠ j := fun q => e3 (by rw [← q]; exact p3.symm)
        have e2 : (par s i < j + 1) = (par s i < j) := by apply propext; omega
        simp only [e2] at this; exact this
theorem impl_partnersOf_ev (s : ByteArray) (hw : WOK s) : Ev (fun k => impl_partnersOf.f k s) (pars s) := by
  have hz := hw.size
  have key : ∀ d i, s.size - i = d → i ≤ s.size → ∀ x3 : List Int, x3.length = s.size → (∀ q, q < i → x3[q]? = some (par s q : Int)) → Ev (fun k => impl_partnersOf.l0 k s x3 (s.size : Nat) (i : Nat)) (pars s) := by
    intro d
    induction d with
    | zero =>
      intro i hd hi x3 hx hq
      obtain rfl : i = s.size := by omega
      refine Ev.step (fun k => by rw [impl_partnersOf.l0]) (Ev.neg (by omega) (Ev.const ?_))
      congr 1
      apply List.ext_getElem? 
      intro q
      by_cases h : q < s.size
      · rw [hq q h]; simp [pars, h]
      · rw [List.getElem?_eq_none (by omega), List.getElem?_eq_none (by rw [pars_length]; omega)]
    | succ d ih =>
      intro i hd hi x3 hx hq
      refine Ev.step (fun k => by rw [impl_partnersOf.l0]) (Ev.pos (by omega) ?_)
      have := impl_partnersOf_l1_ev s hw i (by omega) x3 hx (pars s) (s.size : Nat) (i : Nat) ?_ s.size 0 (by omega) (by omega)
      · rw [if_neg (by omega)] at this; exact this
      · refine Ev.step (fun k => by rw [impl_partnersOf.l1]) (Ev.neg (by omega) ?_)
        rw [wrap64_id (by omega) (by omega)]
        refine ih (i + 1) (by omega) (by omega) _ (by simp [hx]) (fun q hqi => ?_)
        by_cases e : q = i
        · subst e; rw [List.getElem?_set_self (by omega)]
        · rw [List.getElem?_set_ne (by omega)]; exact hq q (by omega)
  unfold impl_partnersOf.f
  refine Ev.pos (by omega) (Ev.pos (by omega) ?_)
  exact key s.size 0 (by omega) (by omega) _ (by simp) (fun q hq => by omega)
/-! ### impl_reversed -/
theorem impl_reversed_ev (t : ByteArray) (ht : t.size ≤ 1048576) (ha : AllLet t) : Ev (fun k => impl_reversed.f k t) (backS t) := by
  have key : ∀ r, r ≤ t.size → Ev (fun k => impl_reversed.l0 k t (backN t (t.size - r)) ((r : Int) - 1)) (backS t) := by
    intro r
    induction r with
    | zero =>
      intro _
      refine Ev.step (fun k => by rw [impl_reversed.l0]) ?_
      refine Ev.neg (by omega) ?_
      exact Ev.const rfl
    | succ r ih =>
      intro hr
      refine Ev.step (fun k => by rw [impl_reversed.l0]) (Ev.pos (by omega) (Ev.pos (by omega) (Ev.pos (by omega) (Ev.pos (by simp [backN]; omega) ?_))))
      rw [show ((r + 1 : Nat) : Int) - 1 = (r : Int) by omega]
      rw [wrap64_id (by omega) (by omega), fl_eq _ (bt_rng _ _).1 (bt_rng _ _).2 (ha r (by omega))]
      have := ih (by omega)
      rw [show t.size - r = (t.size - (r + 1)) + 1 by omega, backN_succ, show t.size - 1 - (t.size - (r + 1)) = r by omega] at this
      exact this
  have := key t.size (Nat.le_refl _)
  unfold impl_reversed.f
  rw [wrap64_id (by omega) (by omega)]
  rw [Nat.sub_self] at this
  exact this
/-! ### impl_WordCut -/
theorem impl_WordCut_ev (s : ByteArray) (i k : Int) : Ev (fun n => impl_WordCut.f n s i k) (cutV s i k) := by
  have hno : ¬ CutOK s i k → Ev (fun n => impl_WordCut.j0 n s i k true) (cutV s i k) := fun h => by
    unfold cutV; rw [if_neg h]
    exact Ev.step (fun n => by rw [impl_WordCut.j0]) (Ev.pos rfl (Ev.const rfl))
  unfold impl_WordCut.f
  refine Ev.bindc (impl_WordValid_eq s) ?_
  refine Ev.ite (fun hw => ?_) (fun h => hno (fun w => h (decide_eq_true w.1)))
  replace hw := of_decide_eq_true hw
  have hz := hw.size
  refine Ev.ite (fun h => hno (fun w => by have := w.2.1; omega)) (fun h1 => ?_)
  refine Ev.ite (fun h => hno (fun w => by have := w.2.2.1; omega)) (fun h2 => ?_)
  refine Ev.ite (fun h => hno (fun w => by have := w.2.2.2.1; omega)) (fun h3 => ?_)
  by_cases h4 : k ≥ i
  · rw [decide_eq_true h4]; exact hno (fun w => by have := w.2.2.2.2.1; omega)
  rw [decide_eq_false h4]
  obtain ⟨i, rfl⟩ := Int.eq_ofNat_of_zero_le (show 0 ≤ i by omega)
  obtain ⟨k, rfl⟩ := Int.eq_ofNat_of_zero_le (show 0 ≤ k by omega)
  obtain ⟨p1, p2, p3, p4⟩ := par_spec hw (i := k) (by omega)
  refine Ev.step (fun n => by rw [impl_WordCut.j0]) (Ev.neg (by simp) ?_)
  refine Ev.bind (impl_partnersOf_ev s hw) ?_
  rw [rd_pars s k (by omega)]
  refine Ev.pos (by omega) (Ev.pos (by rw [pars_length]; omega) ?_)
  refine Ev.ite (fun h => ?_) (fun h5 => ?_)
  · unfold cutV
    rw [if_neg (fun w : CutOK s i k => by have := w.2.2.2.2.2; simp only [toNat_nat] at this; omega)]
    exact Ev.const rfl
  have hok : CutOK s i k := ⟨hw, by omega, by omega, by omega, by omega, by simp only [toNat_nat]; omega⟩
  have h0 := (hw.2 k (by omega)).1
  have hr := slet_range (bt s (k : Int))
  have hl : slet (bt s (k : Int)) = wl s k := rfl
  obtain ⟨es, el⟩ := small_eq (bt s (k : Int)) (bt_rng _ _).1 (bt_rng _ _).2 h0
  rw [hl] at hr es el
  have hra := rest_all hw i k (by omega)
  have hv : cutV s i k = (cutS s i k, true) := by unfold cutV; rw [if_pos hok]; rfl
  rw [hv, es, el, wrap64_id (x := (k : Int) + 1) (by omega) (by omega), wrap64_id (x := (par s k : Int) + 1) (by omega) (by omega)]
  have e1 : ((k : Int) + 1).toNat = k + 1 := by omega
  have e2 : ((par s k : Int) + 1).toNat = par s k + 1 := by omega
  simp only [e1, e2, toNat_nat]
  have z1 : ∀ x : Int, (strOfNums [x]).size = 1 := fun x => strOfNums_size _
  have z2 : ∀ a b, (s.extract a b).size ≤ 10 := fun a b => by rw [ByteArray.size_extract]; omega
  have zr : ((s.extract (par s k + 1) s.size ++ strOfNums [65 + wl s k]) ++ s.extract i (par s k)).size ≤ 21 := by
    have := z2 (par s k + 1) s.size; have := z2 i (par s k); rw [ByteArray.size_append, ByteArray.size_append, z1]; omega
  have zf : ((s.extract (k + 1) i ++ strOfNums [97 + wl s k]) ++ s.extract 0 k).size ≤ 21 := by
    have := z2 (k + 1) i; have := z2 0 k; rw [ByteArray.size_append, ByteArray.size_append, z1]; omega
  refine Ev.pos (by omega) (Ev.pos (by omega) (Ev.pos (by omega) ?_))
  refine Ev.bindc rfl ?_
  refine Ev.pos (by have := z2 (par s k + 1) s.size; rw [z1]; omega) ?_
  refine Ev.pos (by omega) (Ev.pos (by omega) (Ev.pos (by omega) ?_))
  refine Ev.pos (by have := z2 (par s k + 1) s.size; have := z2 i (par s k); rw [ByteArray.size_append, z1]; omega) ?_
  refine Ev.pos (by omega) (Ev.pos (by omega) ?_)
  refine Ev.ite (fun e => ?_) (fun e => ?_)
  · have e' : wsm s k = wsm s (par s k) := (bt_same hw (by omega)).1 e
    refine Ev.bind (impl_reversed_ev _ (by omega) hra) ?_
    refine Ev.pos (by omega) (Ev.pos (by omega) (Ev.pos (by omega) ?_))
    refine Ev.bindc rfl ?_
    refine Ev.pos (by have := z2 (k + 1) i; rw [z1]; omega) (Ev.pos (by omega) ?_)
    refine Ev.pos (by have := z2 (k + 1) i; have := z2 0 k; rw [ByteArray.size_append, z1]; omega) ?_
    refine Ev.pos ?_ (Ev.const ?_)
    · have : (backS ((s.extract (par s k + 1) s.size ++ strOfNums [65 + wl s k]) ++ s.extract i (par s k))).size ≤ 21 := by
        unfold backS; rw [strOfNums_size]; simp [backN]; simpa using zr
      omega
    · unfold cutS; rw [if_pos e']
  · have e' : ¬ wsm s k = wsm s (par s k) := fun h => e ((bt_same hw (by omega)).2 h)
    refine Ev.pos (by omega) (Ev.pos (by omega) (Ev.pos (by omega) ?_))
    refine Ev.bindc rfl ?_
    refine Ev.pos (by have := z2 (k + 1) i; rw [z1]; omega) (Ev.pos (by omega) ?_)
    refine Ev.pos (by have := z2 (k + 1) i; have := z2 0 k; rw [ByteArray.size_append, z1]; omega) ?_
    refine Ev.pos (by omega) (Ev.const ?_)
    unfold cutS; rw [if_neg e']
/-! ### The law -/
theorem FnExactWordCut : laws_FnExactWordCut.Pure := by
  intro s i k hs _ _
  refine Ev.rounds ?_
  unfold laws_FnExactWordCut.f
  refine Ev.ite (fun _ => Ev.const rfl) (fun h => ?_)
  refine Ev.bind (spec_WordCut_ev s (by omega) i k) ?_
  refine Ev.bind (impl_WordCut_ev s i k) ?_
  exact Ev.pos rfl (Ev.neg (by simp) (Ev.const rfl))

end Go.Proofs.Ytdbglmnialieoaa.Pure
