/- The law FnExactWordNames holds for every input. -/
import Derived.Test.YtdbglmnialieoaaPFnExactWordNamesx4
import Derived.Test.YtdbglmnialieoaaM0
import Derived.Test.YtdbglmnialieoaaMN
set_option linter.unusedVariables false
set_option linter.unusedSimpArgs false
namespace Go.Proofs.Ytdbglmnialieoaa.Pure
open Go.RowKit Go.Proofs.Ytdbglmnialieoaa.PFnExactWordNames Go.Proofs.YtdbglmnialieoaaW.PrintWords Go.Proofs.YtdbglmnialieoaaW.PrintLast Go.Proofs.Ytdbglmnialieoaa.M

/-! ### spec_l8Letter -/
theorem spec_l8Letter_ev (x : Int) (h0 : 0 ≤ x) (h1 : x ≤ 255) : Ev (fun k => spec_l8Letter.f k x) (slet x) := by
  have hj : ∀ b, Ev (fun k => spec_l8Letter.j0 k x b) (if b = true then (x - 97) % 256 else if x ≥ 65 then if x < 70 then (x - 65) % 256 else -1 else -1) := by
    intro b
    refine Ev.step (fun k => by rw [spec_l8Letter.j0]) ?_
    refine Ev.const ?_
    repeat' split
    all_goals rfl
  unfold spec_l8Letter.f slet
  refine Ev.ite (fun h => Ev.to (hj _) ?_) (fun h => Ev.to (hj _) ?_)
  · by_cases h2 : x < 102 <;> simp [h2] <;> omega
  · simp
    split <;> split <;> omega
/-! ### spec_WordValid -/
theorem spec_WordValid_l1_ev (s : ByteArray) (hs : s.size ≤ 1048576) (i : Nat) (hi : i < s.size) (r : Bool) (hr : Ev (fun k => spec_WordValid.l1 k s i (wcnt s (wl s i) s.size : Nat) (s.size : Nat)) r) :
    ∀ d j, s.size - j = d → j ≤ s.size → Ev (fun k => spec_WordValid.l1 k s i (wcnt s (wl s i) j : Nat) (j : Nat)) r := by
  intro d
  induction d with
  | zero => intro j hd hj; obtain rfl : j = s.size := by omega
            exact hr
  | succ d ih =>
    intro j hd hj
    have hb := wcnt_le s (wl s i) j
    refine Ev.step (fun k => by rw [spec_WordValid.l1]) ?_
    refine Ev.pos (by omega) (Ev.pos (by omega) ?_)
    refine Ev.bind (spec_l8Letter_ev _ (bt_rng _ _).1 (bt_rng _ _).2) (Ev.pos (by omega) (Ev.pos (by omega) ?_))
    refine Ev.bind (spec_l8Letter_ev _ (bt_rng _ _).1 (bt_rng _ _).2) ?_
    have := ih (j + 1) (by omega) (by omega)
    rw [wrap64_id (x := (j : Int) + 1) (by omega) (by omega)]
    refine Ev.ite (fun h => ?_) (fun h => ?_)
    · rw [wrap64_id (by omega) (by omega)]
      have e : wcnt s (wl s i) (j + 1) = wcnt s (wl s i) j + 1 := by simp only [wcnt]; exact congrArg (wcnt s (wl s i) j + ·) (if_pos h)
      rw [e] at this; exact this
    · have e : wcnt s (wl s i) (j + 1) = wcnt s (wl s i) j := by simp only [wcnt]; exact congrArg (wcnt s (wl s i) j + ·) (if_neg h)
      rw [e] at this; exact this
theorem spec_WordValid_ev (s : ByteArray) (hs : s.size ≤ 1048576) : Ev (fun k => spec_WordValid.f k s) (decide (WOK s)) := by
  have key : ∀ d i, s.size - i = d → i ≤ s.size → (∀ q, q < i → 0 ≤ wl s q ∧ wcnt s (wl s q) s.size = 2) → Ev (fun k => spec_WordValid.l0 k s (i : Nat)) (decide (WOK s)) := by
    intro d
    induction d with
    | zero =>
      intro i hd hi hq
      obtain rfl : i = s.size := by omega
      refine Ev.step (fun k => by rw [spec_WordValid.l0]) (Ev.neg (by omega) (Ev.const ?_))
      congr 1
      rw [decide_eq_decide]
      exact ⟨fun h => ⟨by omega, hq⟩, fun h => by have := h.1; omega⟩
    | succ d ih =>
      intro i hd hi hq
      refine Ev.step (fun k => by rw [spec_WordValid.l0]) (Ev.pos (by omega) ?_)
      refine spec_WordValid_l1_ev s hs i (by omega) _ ?_ s.size 0 (by omega) (by omega)
      refine Ev.step (fun k => by rw [spec_WordValid.l1]) (Ev.neg (by omega) (Ev.pos (by omega) (Ev.pos (by omega) ?_)))
      refine Ev.bind (spec_l8Letter_ev _ (bt_rng _ _).1 (bt_rng _ _).2) ?_
      have hn : ∀ h : ¬ (0 ≤ wl s i ∧ wcnt s (wl s i) s.size = 2), some false = some (decide (WOK s)) := fun h => by
        rw [decide_eq_false (fun w => h (w.2 i (by omega)))]
      refine Ev.ite (fun h => Ev.const (hn (fun a => by have := a.1; simp only [wl] at this; omega))) (fun h => ?_)
      refine Ev.ite (fun h2 => ?_) (fun h2 => Ev.const (hn (fun a => h2 (by have := a.2; omega))))
      rw [wrap64_id (by omega) (by omega)]
      exact ih (i + 1) (by omega) (by omega) (fun q hqi => by
        by_cases e : q = i
        · subst e; exact ⟨by simp only [wl]; omega, by omega⟩
        · exact hq q (by omega))
  unfold spec_WordValid.f
  exact key s.size 0 (by omega) (by omega) (fun q hq => by omega)
/-! ### spec_l8Small -/
theorem spec_l8Small_eq (x : Int) : spec_l8Small.f x = some (decide (x ≥ 97)) := rfl
/-! ### spec_l8Name -/
theorem spec_l8Name_eq (n : Int) (b : Bool) (h0 : 0 ≤ n) (h1 : n < 100) : spec_l8Name.f n b = some (strOfNums [if b = true then 97 + n else 65 + n]) := by
  unfold spec_l8Name.f
  rw [wrap64_id (x := 97 + n) (by omega) (by omega), wrap64_id (x := 65 + n) (by omega) (by omega), Int.emod_eq_of_lt (a := 97 + n) (by omega) (by omega), Int.emod_eq_of_lt (a := 65 + n) (by omega) (by omega)]
  cases b <;> rfl
/-! ### spec_l8Names -/
theorem spec_l8Names_ev (s : ByteArray) (hw : WOK s) (q : Int) (hq0 : 0 ≤ q) (hq1 : q ≤ 10) : Ev (fun k => spec_l8Names.f k s q) (strOfNums (namesL s q)) := by
  have hz := hw.size
  have key : ∀ d i, s.size - i = d → i ≤ s.size → ∀ (x6 : List Int) (x7 : List Bool), x6.length = 5 → x7.length = 5 →
      (∀ f, f < i → f < par s f → rd x6 (wl s f) = q + nf s f ∧ rdOf false x7 (wl s f) = wsm s f) →
      (∀ c : Int, 0 ≤ c → c < 5 → (∀ j, j < i → wl s j ≠ c) → rd x6 c = -1) →
      Ev (fun k => spec_l8Names.l0 k s (strOfNums ((namesL s q).take i)) x6 x7 (q + (nf s i : Int)) (i : Nat)) (strOfNums (namesL s q)) := by
    intro d
    induction d with
    | zero =>
      intro i hd hi x6 x7 h6 h7 hA hB
      obtain rfl : i = s.size := by omega
      refine Ev.step (fun k => by rw [spec_l8Names.l0]) (Ev.neg (by omega) (Ev.const ?_))
      rw [List.take_of_length_le (by rw [namesL_length]; omega)]
    | succ d ih =>
      intro i hd hi x6 x7 h6 h7 hA hB
      have hi' : i < s.size := by omega
      obtain ⟨p1, p2, p3, p4⟩ := par_spec hw hi'
      have hr := slet_range (bt s (i : Int))
      have h0 := (hw.2 i hi').1
      have hn := nf_le s i
      have htk : strOfNums ((namesL s q).take (i + 1)) = strOfNums ((namesL s q).take i) ++ strOfNums [nmb s q i] := by
        rw [List.take_succ_eq_append_getElem (by rw [namesL_length]; omega), strOfNums_append, namesL_get s q i hi']
      have hsz : (strOfNums ((namesL s q).take i)).size ≤ 10 := by
        rw [strOfNums_size]; have := List.length_take_le i (namesL s q); omega
      refine Ev.step (fun k => by rw [spec_l8Names.l0]) (Ev.pos (by omega) (Ev.pos (by omega) ?_))
      refine Ev.bind (spec_l8Letter_ev _ (bt_rng _ _).1 (bt_rng _ _).2) ?_
      have hl : slet (bt s (i : Int)) = wl s i := rfl
      rw [hl] at hr ⊢
      refine Ev.pos (by omega) (Ev.pos (by omega) ?_)
      rw [wrap64_id (x := (i : Int) + 1) (by omega) (by omega)]
      by_cases hf : i < par s i
      · have hneg : rd x6 (wl s i) = -1 := hB _ h0 (by omega) (fun j hj e => by
          have := p4 j (by omega) (by omega) e; omega)
        have e1 : rd (x6.set (wl s i).toNat (q + (nf s i : Int))) (wl s i) = q + nf s i := by
          simp [rd, List.getD_eq_getElem?_getD]; rw [List.getElem?_set_self (by omega)]; rfl
        have e2 : rdOf false (x7.set (wl s i).toNat (decide (bt s (i : Int) ≥ 97))) (wl s i) = wsm s i := by
          simp [rdOf, List.getD_eq_getElem?_getD]; rw [List.getElem?_set_self (by omega)]; rfl
        refine Ev.pos (by omega) (Ev.bindc rfl ?_)
        refine Ev.bindc (spec_l8Small_eq _) (Ev.pos (by omega) (Ev.bindc rfl (Ev.bindc (spec_l8Small_eq _) ?_)))
        rw [e1, e2]
        refine Ev.bindc (spec_l8Name_eq _ _ (by omega) (by omega)) (Ev.pos (by rw [show ∀ x : Int, (strOfNums [x]).size = 1 from fun x => strOfNums_size _]; omega) ?_)
        have := ih (i + 1) (by omega) (by omega) (x6.set (wl s i).toNat (q + (nf s i : Int))) (x7.set (wl s i).toNat (decide (bt s (i : Int) ≥ 97))) (by simp [h6]) (by simp [h7]) ?_ ?_
        · rw [htk] at this
          have en : nf s (i + 1) = nf s i + 1 := by simp only [nf]; rw [if_pos hf]
          have em : nmb s q i = 97 + (q + nf s i) := by unfold nmb; rw [show fst_ s i = i from if_pos hf, if_pos rfl]
          rw [en, em] at this
          rw [wrap64_id (by omega) (by omega), show (decide (bt s (i : Int) ≥ 97) == wsm s i) = true from beq_iff_eq.2 rfl, if_pos rfl]
          rw [show q + ((nf s i + 1 : Nat) : Int) = q + (nf s i : Int) + 1 by omega] at this
          exact this
        · intro f hfi hff
          by_cases e : f = i
          · subst e; exact ⟨e1, e2⟩
          · obtain ⟨a1, a2⟩ := hA f (by omega) hff
            have hne : wl s f ≠ wl s i := fun e3 => by have := p4 f (by omega) e e3; omega
            have f0 := (hw.2 f (by omega)).1
            constructor
            · rw [← a1]; simp only [rd, List.getD_eq_getElem?_getD]; rw [List.getElem?_set_ne (by omega)]
            · rw [← a2]; simp only [rdOf, List.getD_eq_getElem?_getD]; rw [List.getElem?_set_ne (by omega)]
        · intro c hc0 hc5 hj
          have hne : wl s i ≠ c := hj i (by omega)
          rw [← hB c hc0 hc5 (fun j hji => hj j (by omega))]
          simp only [rd, List.getD_eq_getElem?_getD]; rw [List.getElem?_set_ne (by omega)]
      · have hfp : par s i < i := by omega
        have hpp := par_par hw hi'
        obtain ⟨a1, a2⟩ := hA (par s i) hfp (by omega)
        rw [p3] at a1 a2
        have hn2 := nf_le s (par s i)
        refine Ev.neg (by omega) (Ev.bindc (spec_l8Small_eq _) (Ev.pos (by omega) ?_))
        rw [a1, a2]
        refine Ev.bindc (spec_l8Name_eq _ _ (by omega) (by omega)) (Ev.pos (by rw [show ∀ x : Int, (strOfNums [x]).size = 1 from fun x => strOfNums_size _]; omega) ?_)
        have := ih (i + 1) (by omega) (by omega) x6 x7 h6 h7 (fun f hfi hff => by
          by_cases e : f = i
          · subst e; omega
          · exact hA f (by omega) hff) (fun c hc0 hc5 hj => hB c hc0 hc5 (fun j hji => hj j (by omega)))
        rw [htk] at this
        have en : nf s (i + 1) = nf s i := by simp only [nf]; rw [if_neg hf]; rfl
        have em : nmb s q i = if ((decide (bt s (i : Int) ≥ 97)) == wsm s (par s i)) = true then 97 + (q + nf s (par s i)) else 65 + (q + nf s (par s i)) := by
          unfold nmb; rw [show fst_ s i = par s i from if_neg hf]
          by_cases e : wsm s i = wsm s (par s i)
          · rw [if_pos e, if_pos (show (decide (bt s (i : Int) ≥ 97) == wsm s (par s i)) = true from beq_iff_eq.2 e)]
          · rw [if_neg e, if_neg (fun h : (decide (bt s (i : Int) ≥ 97) == wsm s (par s i)) = true => e (beq_iff_eq.1 h))]
        rw [en, em] at this
        exact this
  have := key s.size 0 (by omega) (by omega) [-1, -1, -1, -1, -1] [false, false, false, false, false] rfl rfl (fun f hf => by omega) (fun c h0 h5 _ => by
    have : c = 0 ∨ c = 1 ∨ c = 2 ∨ c = 3 ∨ c = 4 := by omega
    rcases this with rfl | rfl | rfl | rfl | rfl <;> rfl)
  unfold spec_l8Names.f
  rw [show q + ((nf s 0 : Nat) : Int) = q by simp [nf]] at this
  exact this
/-! ### spec_WordNames -/
theorem spec_WordNames_ev (s : ByteArray) (hs : s.size ≤ 1048576) : Ev (fun k => spec_WordNames.f k s) (if WOK s then (strOfNums (namesL s 0), true) else ((⟨#[]⟩ : ByteArray), false)) := by
  unfold spec_WordNames.f
  refine Ev.bind (spec_WordValid_ev s hs) ?_
  by_cases hw : WOK s
  · rw [if_pos hw]
    exact Ev.pos (decide_eq_true hw) (Ev.bind (spec_l8Names_ev s hw 0 (by omega) (by omega)) (Ev.const rfl))
  · rw [if_neg hw]
    exact Ev.neg (by simp [hw]) (Ev.const rfl)
/-! ### impl_WordValid -/
theorem impl_WordValid_letter (x : Int) (h0 : 0 ≤ x) (h1 : x ≤ 255) : impl_WordValid.letter x = slet x := ilet_eq x h0 h1
theorem impl_WordValid_cnt (s : ByteArray) (c : Int) : ∀ k, k ≤ s.size → impl_WordValid.cnt s k c = (wcnt s c k : Nat) := by
  intro k
  induction k with
  | zero => intro _; rfl
  | succ k ih =>
    intro hk
    rw [impl_WordValid.cnt_succ s k (by omega) c, ih (by omega), impl_WordValid_letter _ (bt_rng _ _).1 (bt_rng _ _).2]
    simp only [wcnt, wl]
    by_cases e : slet (bt s (k : Int)) = c <;> simp [e]
theorem impl_WordValid_eq (s : ByteArray) : impl_WordValid.f s = some (decide (WOK s)) := by
  unfold impl_WordValid.f
  congr 1
  have hall : (impl_WordValid.letters s).all (fun n => decide (0 ≤ n)) = true ↔ ∀ i, i < s.size → 0 ≤ wl s i := by
    rw [List.all_eq_true]
    simp only [impl_WordValid.letters, List.mem_map, List.mem_range, decide_eq_true_eq]
    constructor
    · intro h i hi
      have := h _ ⟨i, hi, rfl⟩
      rwa [impl_WordValid_letter _ (bt_rng _ _).1 (bt_rng _ _).2] at this
    · rintro h x ⟨i, hi, rfl⟩
      rw [impl_WordValid_letter _ (bt_rng _ _).1 (bt_rng _ _).2]
      exact h i hi
  have hfine : ∀ c, impl_WordValid.fine s c = true ↔ (wcnt s c s.size = 0 ∨ wcnt s c s.size = 2) := by
    intro c
    unfold impl_WordValid.fine
    rw [impl_WordValid_cnt s c s.size (Nat.le_refl _), Bool.or_eq_true, beq_iff_eq, beq_iff_eq]
    omega
  rw [Bool.eq_iff_iff, decide_eq_true_eq]
  unfold impl_WordValid.val
  simp only [Bool.and_eq_true, decide_eq_true_eq]
  rw [hall, hfine, hfine, hfine, hfine, hfine]
  constructor
  · rintro ⟨h1, h2, h3, ⟨⟨⟨h4, h5⟩, h6⟩, h7⟩, h8⟩
    refine ⟨by omega, fun i hi => ⟨h3 i hi, ?_⟩⟩
    have hr := slet_range (bt s (i : Int))
    have h0 := h3 i hi
    have hn : wcnt s (wl s i) s.size ≠ 0 := fun e => wcnt_zero e i hi rfl
    have hc : wl s i = 0 ∨ wl s i = 1 ∨ wl s i = 2 ∨ wl s i = 3 ∨ wl s i = 4 := by unfold wl at *; omega
    rcases hc with e | e | e | e | e <;> rw [e] at hn ⊢ <;> omega
  · intro h
    have hc : ∀ c, wcnt s c s.size = 0 ∨ wcnt s c s.size = 2 := by
      intro c
      by_cases hz : wcnt s c s.size = 0
      · exact .inl hz
      · right
        obtain ⟨i, hi, hl⟩ : ∃ i, i < s.size ∧ wl s i = c := by
          refine Classical.byContradiction fun hno => hz ?_
          have : ∀ k, k ≤ s.size → wcnt s c k = 0 := by
            intro k
            induction k with
            | zero => intro _; rfl
            | succ k ih => intro hk; simp only [wcnt]; rw [ih (by omega), if_neg (fun e => hno ⟨k, by omega, e⟩)]
          exact this s.size (Nat.le_refl _)
        rw [← hl]; exact (h.2 i hi).2
    have hsum := wcnt_sum s s.size (fun i hi => (h.2 i hi).1)
    have c0 := hc 0
    have c1 := hc 1
    have c2 := hc 2
    have c3 := hc 3
    have c4 := hc 4
    have := h.1
    exact ⟨by omega, by omega, fun i hi => (h.2 i hi).1, ⟨⟨⟨c0, c1⟩, c2⟩, c3⟩, c4⟩
/-! ### impl_partnersOf -/
theorem impl_partnersOf_l1_ev (s : ByteArray) (hw : WOK s) (i : Nat) (hi : i < s.size) (x3 : List Int) (hx : x3.length = s.size) (r : List Int) (x10 x11 : Int)
    (hr : Ev (fun k => impl_partnersOf.l1 k s (x3.set i (par s i : Int)) i x10 x11 (s.size : Nat) (s.size : Nat)) r) :
    ∀ d j, s.size - j = d → j ≤ s.size → Ev (fun k => impl_partnersOf.l1 k s (if par s i < j then x3.set i (par s i : Int) else x3) i x10 x11 (s.size : Nat) (j : Nat)) r := by
  obtain ⟨p1, p2, p3, p4⟩ := par_spec hw hi
  have hz := hw.size
  intro d
  induction d with
  | zero =>
    intro j hd hj
    obtain rfl : j = s.size := by omega
    rw [if_pos p1]; exact hr
  | succ d ih =>
    intro j hd hj
    have := ih (j + 1) (by omega) (by omega)
    refine Ev.step (fun k => by rw [impl_partnersOf.l1]) (Ev.pos (by omega) ?_)
    rw [wrap64_id (x := (j : Int) + 1) (by omega) (by omega)]
    refine Ev.ite (fun e => ?_) (fun e => Ev.pos (by omega) (Ev.pos (by omega) (Ev.pos (by omega) (Ev.pos (by omega) ?_))))
    · have e2 : (par s i < j + 1) = (par s i < j) := by apply propext; omega
      simp only [e2] at this; exact this
    · refine Ev.ite (fun e3 => ?_) (fun e3 => ?_)
      · rw [or_eq _ _ (bt_rng _ _).1 (bt_rng _ _).2 (bt_rng _ _).1 (bt_rng _ _).2 (hw.2 i hi).1 (hw.2 j (by omega)).1] at e3
        have e4 := p4 j (by omega) (by omega) e3.symm
        rw [if_pos (by omega)] at this
        rw [if_neg (by omega)]
        refine Ev.pos (by omega) ?_
        rw [← e4] at this
        exact this
      · rw [or_eq _ _ (bt_rng _ _).1 (bt_rng _ _).2 (bt_rng _ _).1 (bt_rng _ _).2 (hw.2 i hi).1 (hw.2 j (by omega)).1] at e3
        have e4 : par s i ≠ j := fun q => e3 (by rw [← q]; exact p3.symm)
        have e2 : (par s i < j + 1) = (par s i < j) := by apply propext; omega
        simp only [e2] at this; exact this
theorem impl_partnersOf_ev (s : ByteArray) (hw : WOK s) : Ev (fun k => impl_partnersOf.f k s) (pars s) := by
  have hz := hw.size
  have key : ∀ d i, s.size - i = d → i ≤ s.size → ∀ x3 : List Int, x3.length = s.size → (∀ q, q < i → x3[q]? = some (par s q : Int)) → Ev (fun k => impl_partnersOf.l0 k s x3 (s.size : Nat) (i : Nat)) (pars s) := by
    intro d
    induction d with
    | zero =>
      intro i hd hi x3 hx hq
      obtain rfl : i = s.size := by omega
      refine Ev.step (fun k => by rw [impl_partnersOf.l0]) (Ev.neg (by omega) (Ev.const ?_))
      congr 1
      apply List.ext_getElem? 
      intro q
      by_cases h : q < s.size
      · rw [hq q h]; simp [pars, h]
      · rw [List.getElem?_eq_none (by omega), List.getElem?_eq_none (by rw [pars_length]; omega)]
    | succ d ih =>
      intro i hd hi x3 hx hq
      refine Ev.step (fun k => by rw [impl_partnersOf.l0]) (Ev.pos (by omega) ?_)
      have := impl_partnersOf_l1_ev s hw i (by omega) x3 hx (pars s) (s.size : Nat) (i : Nat) ?_ s.size 0 (by omega) (by omega)
      · rw [if_neg (by omega)] at this; exact this
      · refine Ev.step (fun k => by rw [impl_partnersOf.l1]) (Ev.neg (by omega) ?_)
        rw [wrap64_id (by omega) (by omega)]
        refine ih (i + 1) (by omega) (by omega) _ (by simp [hx]) (fun q hqi => ?_)
        by_cases e : q = i
        · subst e; rw [List.getElem?_set_self (by omega)]
        · rw [List.getElem?_set_ne (by omega)]; exact hq q (by omega)
  unfold impl_partnersOf.f
  refine Ev.pos (by omega) (Ev.pos (by omega) ?_)
  exact key s.size 0 (by omega) (by omega) _ (by simp) (fun q hq => by omega)
/-! ### impl_named -/
theorem impl_named_ev (s : ByteArray) (hw : WOK s) (q : Int) (hq0 : 0 ≤ q) (hq1 : q ≤ 10) : Ev (fun k => impl_named.f k s q) (strOfNums (namesL s q)) := by
  have hz := hw.size
  have key : ∀ d i, s.size - i = d → i ≤ s.size → ∀ (x5 : List Int), x5.length = s.size →
      (∀ f, f < i → f < par s f → x5[f]? = some (nmb s q f) ∧ x5[par s f]? = some (nmb s q (par s f))) →
      Ev (fun k => impl_named.l0 k s (q + (nf s i : Int)) x5 (pars s) (s.size : Nat) (i : Nat)) (strOfNums (namesL s q)) := by
    intro d
    induction d with
    | zero =>
      intro i hd hi x5 h5 hA
      obtain rfl : i = s.size := by omega
      refine Ev.step (fun k => by rw [impl_named.l0]) (Ev.neg (by omega) (Ev.const ?_))
      congr 2
      refine List.ext_getElem? (fun j => ?_)
      by_cases hj : j < s.size
      · rw [List.getElem?_eq_getElem (l := namesL s q) (by rw [namesL_length]; exact hj), namesL_get s q j hj]
        obtain ⟨p1, p2, p3, p4⟩ := par_spec hw hj
        by_cases hf : j < par s j
        · exact (hA j hj hf).1
        · have := (hA (par s j) p1 (by rw [par_par hw hj]; omega)).2
          rwa [par_par hw hj] at this
      · rw [List.getElem?_eq_none (by omega), List.getElem?_eq_none (by rw [namesL_length]; omega)]
    | succ d ih =>
      intro i hd hi x5 h5 hA
      have hi' : i < s.size := by omega
      obtain ⟨p1, p2, p3, p4⟩ := par_spec hw hi'
      have hn := nf_le s i
      refine Ev.step (fun k => by rw [impl_named.l0]) (Ev.pos (by omega) (Ev.pos (by omega) (Ev.pos (by rw [pars_length]; omega) ?_)))
      rw [rd_pars s i hi', wrap64_id (x := (i : Int) + 1) (by omega) (by omega)]
      by_cases hf : i < par s i
      · have en : nf s (i + 1) = nf s i + 1 := by simp only [nf]; rw [if_pos hf]
        have em : nmb s q i = 97 + (q + nf s i) := by unfold nmb; rw [show fst_ s i = i from if_pos hf, if_pos rfl]
        have ep : fst_ s (par s i) = i := by unfold fst_; rw [par_par hw hi', if_neg (by omega)]
        have emp : nmb s q (par s i) = if wsm s i = wsm s (par s i) then 97 + (q + nf s i) else 65 + (q + nf s i) := by
          unfold nmb; rw [ep]
          by_cases e : wsm s i = wsm s (par s i)
          · rw [if_pos e, if_pos e.symm]
          · rw [if_neg e, if_neg (fun h => e h.symm)]
        have hx1 : wrap64 (97 + (q + (nf s i : Int))) % 256 = nmb s q i := by
          rw [wrap64_id (by omega) (by omega), Int.emod_eq_of_lt (by omega) (by omega), em]
        refine Ev.neg (by omega) (Ev.pos (by omega) (Ev.bindc rfl (Ev.pos (by omega) (Ev.pos (by omega) (Ev.bindc rfl (Ev.pos (by omega) (Ev.pos (by omega) ?_)))))))
        rw [hx1, wrap64_id (x := q + (nf s i : Int) + 1) (by omega) (by omega)]
        simp only [toNat_nat]
        have er : rd (x5.set i (nmb s q i)) (i : Int) = nmb s q i := rd_get? _ _ _ (by rw [List.getElem?_set_self (by omega)])
        rw [er]
        have er2 : rd ((x5.set i (nmb s q i)).set (par s i) (nmb s q i)) (par s i : Int) = nmb s q i := rd_get? _ _ _ (by rw [List.getElem?_set_self (by simp; omega)])
        rw [er2]
        have go : ∀ y : Int, y = nmb s q (par s i) → Ev (fun k => impl_named.l0 k s (q + (nf s i : Int) + 1) ((x5.set i (nmb s q i)).set (par s i) y) (pars s) (s.size : Nat) ((i : Int) + 1)) (strOfNums (namesL s q)) := by
          intro y hy
          have := ih (i + 1) (by omega) (by omega) ((x5.set i (nmb s q i)).set (par s i) y) (by simp [h5]) (fun f hfi hff => by
            by_cases e : f = i
            · subst e
              rw [List.getElem?_set_ne (by omega), List.getElem?_set_self (by omega), List.getElem?_set_self (by simp; omega), hy]
              exact ⟨rfl, rfl⟩
            · obtain ⟨a1, a2⟩ := hA f (by omega) hff
              have g1 : f ≠ par s i := by omega
              have g2 : par s f ≠ i := fun h => by have := par_par hw (i := f) (by omega); rw [h] at this; omega
              have g3 : par s f ≠ par s i := fun h => by
                have h1 := par_par hw (i := f) (by omega)
                have h2 := par_par hw hi'
                rw [h, h2] at h1; omega
              rw [List.getElem?_set_ne (by omega), List.getElem?_set_ne (by omega), List.getElem?_set_ne (by omega), List.getElem?_set_ne (by omega)]
              exact ⟨a1, a2⟩)
          rw [en, show q + ((nf s i + 1 : Nat) : Int) = q + (nf s i : Int) + 1 by omega] at this
          exact this
        refine Ev.ite (fun e => ?_) (fun e => ?_)
        · exact go _ (by rw [emp, if_pos ((bt_same hw hi').1 e), em])
        · rw [List.set_set]
          exact go _ (by rw [emp, if_neg (fun h => e ((bt_same hw hi').2 h)), em, xor32 _ (by omega) (by omega)])
      · have en : nf s (i + 1) = nf s i := by simp only [nf]; rw [if_neg hf]; rfl
        refine Ev.pos (by omega) ?_
        have := ih (i + 1) (by omega) (by omega) x5 h5 (fun f hfi hff => by
          by_cases e : f = i
          · subst e; omega
          · exact hA f (by omega) hff)
        rw [en] at this
        exact this
  unfold impl_named.f
  refine Ev.pos (by omega) (Ev.pos (by omega) (Ev.bind (impl_partnersOf_ev s hw) ?_))
  have := key s.size 0 (by omega) (by omega) (List.replicate s.size 0) (by simp) (fun f hf => by omega)
  rw [show q + ((nf s 0 : Nat) : Int) = q by simp [nf]] at this
  rw [pars_length]
  exact this
/-! ### impl_WordNames -/
theorem impl_WordNames_ev (s : ByteArray) : Ev (fun k => impl_WordNames.f k s) (if WOK s then (strOfNums (namesL s 0), true) else ((⟨#[]⟩ : ByteArray), false)) := by
  unfold impl_WordNames.f
  refine Ev.bindc (impl_WordValid_eq s) ?_
  by_cases hw : WOK s
  · rw [if_pos hw]
    exact Ev.pos (decide_eq_true hw) (Ev.bind (impl_named_ev s hw 0 (by omega) (by omega)) (Ev.const rfl))
  · rw [if_neg hw]
    exact Ev.neg (by simp [hw]) (Ev.const rfl)
/-! ### The law -/
theorem FnExactWordNames : laws_FnExactWordNames.Pure := by
  intro s hs
  refine Ev.rounds ?_
  unfold laws_FnExactWordNames.f
  refine Ev.ite (fun _ => Ev.const rfl) (fun h => ?_)
  refine Ev.bind (spec_WordNames_ev s (by omega)) ?_
  refine Ev.bind (impl_WordNames_ev s) ?_
  exact Ev.pos rfl (Ev.neg (by simp) (Ev.const rfl))

end Go.Proofs.Ytdbglmnialieoaa.Pure
