/- The law FnWordCut holds for every input. -/
import Derived.Test.YtpfnchjbbagmdaaDoorPFnWordCutx9
import Derived.Test.YtpfnchjbbagmdaaDoorM0
import Derived.Test.YtpfnchjbbagmdaaDoorMO
import Derived.Test.YtpfnchjbbagmdaaDoorMK
import Derived.Test.YtpfnchjbbagmdaaDoorMN
import Derived.Test.YtpfnchjbbagmdaaDoorMW
import Derived.Test.YtpfnchjbbagmdaaDoorMR
import Derived.Test.YtpfnchjbbagmdaaDoorMC
import Derived.Test.YtpfnchjbbagmdaaDoorMH
set_option linter.unusedVariables false
set_option linter.unusedSimpArgs false
namespace Go.Proofs.YtpfnchjbbagmdaaDoor.Pure
open Go.RowKit Go.Proofs.YtpfnchjbbagmdaaDoor.PFnWordCut Go.Proofs.YtpfnchjbbagmdaaDoorW.PrintWords Go.Proofs.YtpfnchjbbagmdaaDoorW.PrintLast Go.Proofs.YtpfnchjbbagmdaaDoor.M

/-! ### impl_WordValid -/
theorem impl_WordValid_letter (x : Int) (h0 : 0 ≤ x) (h1 : x ≤ 255) : impl_WordValid.letter x = slet x := ilet_eq x h0 h1
theorem impl_WordValid_cnt (s : ByteArray) (c : Int) : ∀ k, k ≤ s.size → impl_WordValid.cnt s k c = (wcnt s c k : Nat) := by
  intro k
  induction k with
  | zero => intro _; rfl
  | succ k ih =>
    intro hk
    rw [impl_WordValid.cnt_succ s k (by omega) c, ih (by omega), impl_WordValid_letter _ (bt_rng _ _).1 (bt_rng _ _).2]
    simp only [wcnt, wl]
    by_cases e : slet (bt s (k : Int)) = c <;> simp [e]
theorem impl_WordValid_eq (s : ByteArray) : impl_WordValid.f s = some (decide (WOK s)) := by
  unfold impl_WordValid.f
  congr 1
  have hall : (impl_WordValid.letters s).all (fun n => decide (0 ≤ n)) = true ↔ ∀ i, i < s.size → 0 ≤ wl s i := by
    rw [List.all_eq_true]
    simp only [impl_WordValid.letters, List.mem_map, List.mem_range, decide_eq_true_eq]
    constructor
    · intro h i hi
      have := h _ ⟨i, hi, rfl⟩
      rwa [impl_WordValid_letter _ (bt_rng _ _).1 (bt_rng _ _).2] at this
    · rintro h x ⟨i, hi, rfl⟩
      rw [impl_WordValid_letter _ (bt_rng _ _).1 (bt_rng _ _).2]
      exact h i hi
  have hfine : ∀ c, impl_WordValid.fine s c = true ↔ (wcnt s c s.size = 0 ∨ wcnt s c s.size = 2) := by
    intro c
    unfold impl_WordValid.fine
    rw [impl_WordValid_cnt s c s.size (Nat.le_refl _), Bool.or_eq_true, beq_iff_eq, beq_iff_eq]
    omega
  rw [Bool.eq_iff_iff, decide_eq_true_eq]
  unfold impl_WordValid.val
  simp only [Bool.and_eq_true, decide_eq_true_eq]
  rw [hall, hfine, hfine, hfine, hfine, hfine]
  constructor
  · rintro ⟨h1, h2, h3, ⟨⟨⟨h4, h5⟩, h6⟩, h7⟩, h8⟩
    refine ⟨by omega, fun i hi => ⟨h3 i hi, ?_⟩⟩
    have hr := slet_range (bt s (i : Int))
    have h0 := h3 i hi
    have hn : wcnt s (wl s i) s.size ≠ 0 := fun e => wcnt_zero e i hi rfl
    have hc : wl s i = 0 ∨ wl s i = 1 ∨ wl s i = 2 ∨ wl s i = 3 ∨ wl s i = 4 := by unfold wl at *; omega
    rcases hc with e | e | e | e | e <;> rw [e] at hn ⊢ <;> omega
  · intro h
    have hc : ∀ c, wcnt s c s.size = 0 ∨ wcnt s c s.size = 2 := by
      intro c
      by_cases hz : wcnt s c s.size = 0
      · exact .inl hz
      · right
        obtain ⟨i, hi, hl⟩ : ∃ i, i < s.size ∧ wl s i = c := by
          refine Classical.byContradiction fun hno => hz ?_
          have : ∀ k, k ≤ s.size → wcnt s c k = 0 := by
            intro k
            induction k with
            | zero => intro _; rfl
            | succ k ih => intro hk; simp only [wcnt]; rw [ih (by omega), if_neg (fun e => hno ⟨k, by omega, e⟩)]
          exact this s.size (Nat.le_refl _)
        rw [← hl]; exact (h.2 i hi).2
    have hsum := wcnt_sum s s.size (fun i hi => (h.2 i hi).1)
    have c0 := hc 0
    have c1 := hc 1
    have c2 := hc 2
    have c3 := hc 3
    have c4 := hc 4
    have := h.1
    exact ⟨by omega, by omega, fun i hi => (h.2 i hi).1, ⟨⟨⟨c0, c1⟩, c2⟩, c3⟩, c4⟩
/-! ### impl_partnersOf -/
theorem impl_partnersOf_l1_ev (s : ByteArray) (hw : WOK s) (i : Nat) (hi : i < s.size) (x3 : List Int) (hx : x3.length = s.size) (r : List Int) (x10 x11 : Int)
    (hr : Ev (fun k => impl_partnersOf.l1 k s (x3.set i (par s i : Int)) i x10 x11 (s.size : Nat) (s.size : Nat)) r) :
    ∀ d j, s.size - j = d → j ≤ s.size → Ev (fun k => impl_partnersOf.l1 k s (if par s i < j then x3.set i (par s i : Int) else x3) i x10 x11 (s.size : Nat) (j : Nat)) r := by
  obtain ⟨p1, p2, p3, p4⟩ := par_spec hw hi
  have hz := hw.size
  intro d
  induction d with
  | zero =>
    intro j hd hj
    obtain rfl : j = s.size := by omega
    rw [if_pos p1]; exact hr
  | succ d ih =>
    intro j hd hj
    have := ih (j + 1) (by omega) (by omega)
    refine Ev.step (fun k => by rw [impl_partnersOf.l1]) (Ev.pos (by omega) ?_)
    rw [wrap64_id (x := (j : Int) + 1) (by omega) (by omega)]
    refine Ev.ite (fun e => ?_) (fun e => Ev.pos (by omega) (Ev.pos (by omega) (Ev.pos (by omega) (Ev.pos (by omega) ?_))))
    · have e2 : (par s i < j + 1) = (par s i < j) := by apply propext; omega
      simp only [e2] at this; exact this
    · refine Ev.ite (fun e3 => ?_) (fun e3 => ?_)
      · rw [or_eq _ _ (bt_rng _ _).1 (bt_rng _ _).2 (bt_rng _ _).1 (bt_rng _ _).2 (hw.2 i hi).1 (hw.2 j (by omega)).1] at e3
        have e4 := p4 j (by omega) (by omega) e3.symm
        rw [if_pos (by omega)] at this
        rw [if_neg (by omega)]
        refine Ev.pos (by omega) ?_
        rw [← e4] at this
        exact this
      · rw [or_eq _ _ (bt_rng _ _).1 (bt_rng _ _).2 (bt_rng _ _).1 (bt_rng _ _).2 (hw.2 i hi).1 (hw.2 j (by omega)).1] at e3
        have e4 : par s i ≠ j := fun q => e3 (by rw [← q]; exact p3.symm)
        have e2 : (par s i < j + 1) = (par s i < j) := by apply propext; omega
        simp only [e2] at this; exact this
theorem impl_partnersOf_ev (s : ByteArray) (hw : WOK s) : Ev (fun k => impl_partnersOf.f k s) (pars s) := by
  have hz := hw.size
  have key : ∀ d i, s.size - i = d → i ≤ s.size → ∀ x3 : List Int, x3.length = s.size → (∀ q, q < i → x3[q]? = some (par s q : Int)) → Ev (fun k => impl_partnersOf.l0 k s x3 (s.size : Nat) (i : Nat)) (pars s) := by
    intro d
    induction d with
    | zero =>
      intro i hd hi x3 hx hq
      obtain rfl : i = s.size := by omega
      refine Ev.step (fun k => by rw [impl_partnersOf.l0]) (Ev.neg (by omega) (Ev.const ?_))
      congr 1
      apply List.ext_getElem? 
      intro q
      by_cases h : q < s.size
      · rw [hq q h]; simp [pars, h]
      · rw [List.getElem?_eq_none (by omega), List.getElem?_eq_none (by rw [pars_length]; omega)]
    | succ d ih =>
      intro i hd hi x3 hx hq
      refine Ev.step (fun k => by rw [impl_partnersOf.l0]) (Ev.pos (by omega) ?_)
      have := impl_partnersOf_l1_ev s hw i (by omega) x3 hx (pars s) (s.size : Nat) (i : Nat) ?_ s.size 0 (by omega) (by omega)
      · rw [if_neg (by omega)] at this; exact this
      · refine Ev.step (fun k => by rw [impl_partnersOf.l1]) (Ev.neg (by omega) ?_)
        rw [wrap64_id (by omega) (by omega)]
        refine ih (i + 1) (by omega) (by omega) _ (by simp [hx]) (fun q hqi => ?_)
        by_cases e : q = i
        · subst e; rw [List.getElem?_set_self (by omega)]
        · rw [List.getElem?_set_ne (by omega)]; exact hq q (by omega)
  unfold impl_partnersOf.f
  refine Ev.pos (by omega) (Ev.pos (by omega) ?_)
  exact key s.size 0 (by omega) (by omega) _ (by simp) (fun q hq => by omega)
/-! ### impl_still -/
theorem impl_still_ev (n : Nat) (hn : n ≤ 4194304) : Ev (fun k => impl_still.f k (n : Nat)) (idL n) := by
  have key : ∀ d i, n - i = d → i ≤ n → ∀ x3 : List Int, x3.length = n → (∀ q : Nat, q < i → rd x3 (q : Int) = (q : Int)) → Ev (fun k => impl_still.l0 k x3 (n : Nat) (i : Nat)) (idL n) := by
    intro d
    induction d with
    | zero =>
      intro i hd hi x3 h3 hq
      obtain rfl : i = n := by omega
      refine Ev.step (fun k => by rw [impl_still.l0]) ?_
      refine Ev.neg (by omega) (Ev.const ?_)
      congr 1
      exact list_ext_rd (by rw [h3, idL_length]) (fun q hq' => by rw [hq q (by omega), rd_idL i q (by omega)])
    | succ d ih =>
      intro i hd hi x3 h3 hq
      refine Ev.step (fun k => by rw [impl_still.l0]) (Ev.pos (by omega) (Ev.pos (by omega) (Ev.pos (by omega) ?_)))
      rw [wrap64_id (by omega) (by omega)]
      refine ih (i + 1) (by omega) (by omega) (x3.set i (i : Int)) (by simp [h3]) (fun q hqi => ?_)
      by_cases e : i = q
      · subst e; exact rd_set_self _ _ _ (by omega)
      · rw [rd_set_ne _ _ _ _ e]; exact hq q (by omega)
  unfold impl_still.f
  refine Ev.pos (by omega) (Ev.pos (by omega) (Ev.bindc rfl ?_))
  have := key n 0 (by omega) (by omega) (List.replicate n 0) (by simp) (fun q hq => by omega)
  rw [List.length_replicate]
  exact this
/-! ### impl_orbits -/
def orbSum (o : List Int) : Nat := o.foldr (fun x s => x.toNat + s) 0
theorem orbSum_set (o : List Int) : ∀ (i : Nat) (x : Int), i < o.length → 0 ≤ x → x < rd o (i : Int) → orbSum (o.set i x) < orbSum o := by
  induction o with
  | nil => intro i x h; simp at h
  | cons y l ih =>
    intro i x h h0 hx
    cases i with
    | zero =>
      have : rd (y :: l) ((0 : Nat) : Int) = y := rfl
      rw [this] at hx
      simp only [List.set_cons_zero, orbSum, List.foldr_cons]
      omega
    | succ i =>
      have : rd (y :: l) ((i + 1 : Nat) : Int) = rd l (i : Int) := by
        simp only [rd, List.getD_eq_getElem?_getD, Int.toNat_natCast, List.getElem?_cons_succ]
      rw [this] at hx
      have := ih i x (by simpa using h) h0 hx
      simp only [List.set_cons_succ, orbSum, List.foldr_cons] at *
      omega
theorem orbSum_set_le (o : List Int) (i : Nat) (x : Int) (h : i < o.length) (h0 : 0 ≤ x) (hx : x ≤ rd o (i : Int)) : orbSum (o.set i x) ≤ orbSum o := by
  by_cases e : x = rd o (i : Int)
  · have : o.set i x = o := by
      refine list_ext_rd (by simp) (fun q hq => ?_)
      by_cases eq : i = q
      · subst eq; rw [rd_set_self _ _ _ h, e]
      · rw [rd_set_ne _ _ _ _ eq]
    rw [this]; exact Nat.le_refl _
  · exact Nat.le_of_lt (orbSum_set o i x h h0 (by omega))
theorem impl_orbits_l2_ev {n : Nat} (hn : n ≤ 4194304) {a b : List Int} (ha : Pts n a) (hb : Pts n b) (p : List Int) (hp : Pts n p)
    (hpc : ∀ i, i < n → Con n a b i (fn p i)) (L : List (List Int)) (o0 : List Int) (x17 x18 : Int) (r : List Int) (pre : Prop)
    (hr : ∀ o g, OrbPre n a b o → (g = true → orbSum o < orbSum o0) → (g = false → o = o0 ∧ pre ∧ ∀ i, i < n → rd o (fn p i : Int) = rd o (i : Int)) → Ev (fun k => impl_orbits.l1 k L o g L x17 (wrap64 (x18 + 1))) r) :
    ∀ d i, n - i = d → i ≤ n → ∀ o g, OrbPre n a b o → (g = true → orbSum o < orbSum o0) → (g = false → o = o0 ∧ pre ∧ ∀ q, q < i → rd o (fn p q : Int) = rd o (q : Int)) →
      Ev (fun k => impl_orbits.l2 k L o g L x17 x18 p (n : Nat) (i : Nat)) r := by
  intro d
  induction d with
  | zero =>
    intro i hd hi o g h hg hf
    obtain rfl : i = n := by omega
    refine Ev.step (fun k => by rw [impl_orbits.l2]) ?_
    refine Ev.neg (by omega) ?_
    exact hr o g h hg hf
  | succ d ih =>
    intro i hd hi o g h hg hf
    have hi' : i < n := by omega
    have ep := hp.fn hi'
    have lp := hp.1
    have lo := h.1
    have gi := h.2 i hi'
    have gp := h.2 _ ep.2
    refine Ev.step (fun k => by rw [impl_orbits.l2]) ?_
    rw [ep.1, wrap64_id (x := (i : Int) + 1) (by omega) (by omega)]
    simp only [toNat_nat]
    refine Ev.pos (by omega) (Ev.pos (by omega) (Ev.pos (by omega) (Ev.pos (by omega) (Ev.pos (by omega) (Ev.pos (by omega) ?_)))))
    -- what a change does
    have hch : ¬ (rd o (i : Int) = rd o (fn p i : Int)) → Ev (fun k => impl_orbits.l2 k L ((o.set i (mn (rd o (i : Int)) (rd o (fn p i : Int)))).set (fn p i) (mn (rd o (i : Int)) (rd o (fn p i : Int)))) true L x17 x18 p (n : Nat) ((i : Int) + 1)) r := by
      intro hne
      have hx : mn (rd o (i : Int)) (rd o (fn p i : Int)) ≤ rd o (i : Int) ∧ mn (rd o (i : Int)) (rd o (fn p i : Int)) ≤ rd o (fn p i : Int) ∧ (mn (rd o (i : Int)) (rd o (fn p i : Int)) < rd o (i : Int) ∨ mn (rd o (i : Int)) (rd o (fn p i : Int)) < rd o (fn p i : Int)) ∧ 0 ≤ mn (rd o (i : Int)) (rd o (fn p i : Int)) ∧
          (mn (rd o (i : Int)) (rd o (fn p i : Int)) = rd o (i : Int) ∨ mn (rd o (i : Int)) (rd o (fn p i : Int)) = rd o (fn p i : Int)) := by unfold mn; omega
      generalize mn (rd o (i : Int)) (rd o (fn p i : Int)) = x at *
      obtain ⟨x1, x2, x3, x4, x5⟩ := hx
      have hcx : Con n a b i x.toNat := by
        rcases x5 with e | e
        · rw [e]; exact gi.2.2
        · rw [e]; exact (hpc i hi').trans gp.2.2
      have p1 := h.put hi' x x4 (by omega) hcx
      have p2 := p1.put ep.2 x x4 (by omega) ((hpc i hi').symm.trans hcx)
      have hs : orbSum ((o.set i x).set (fn p i) x) < orbSum o := by
        have l1 := orbSum_set_le o i x (by omega) x4 x1
        by_cases e : i = fn p i
        · rw [← e] at hne; exact absurd rfl hne
        · have e2 : rd (o.set i x) (fn p i : Int) = rd o (fn p i : Int) := rd_set_ne _ _ _ _ e
          have l2 := orbSum_set_le (o.set i x) (fn p i) x (by simp; omega) x4 (by omega)
          rcases x3 with q | q
          · have := orbSum_set o i x (by omega) x4 q; omega
          · have := orbSum_set (o.set i x) (fn p i) x (by simp; omega) x4 (by omega); omega
      have hs0 : orbSum o ≤ orbSum o0 := by
        cases g with
        | true => exact Nat.le_of_lt (hg rfl)
        | false => rw [(hf rfl).1]; exact Nat.le_refl _
      exact ih (i + 1) (by omega) (by omega) _ true p2 (fun _ => by omega) (fun q => by cases q)
    refine Ev.ite (fun e1 => Ev.ite (fun e2 => ?_) (fun e2 => hch (fun e => e2 ?_))) (fun e1 => hch (fun e => e1 ?_))
    · refine ih (i + 1) (by omega) (by omega) o g h hg (fun hgf => ?_)
      obtain ⟨f1, f2, f3⟩ := hf hgf
      refine ⟨f1, f2, fun q hq => ?_⟩
      by_cases e : q = i
      · subst e; omega
      · exact f3 q (by omega)
    · unfold mn at *; omega
    · unfold mn; omega
theorem impl_orbits_ev (n : Nat) (hn : n ≤ 4194304) (a b : List Int) (ha : Pts n a) (hb : Pts n b) : Ev (fun k => impl_orbits.f k [a, b]) (orbL a b) := by
  have la := ha.1
  have lb := hb.1
  have r0 : rd_L1 [a, b] ((0 : Nat) : Int) = a := rfl
  have r1 : rd_L1 [a, b] ((1 : Nat) : Int) = b := rfl
  have main : ∀ m o, orbSum o ≤ m → OrbPre n a b o → Ev (fun k => impl_orbits.l0 k [a, b] o true) (orbL a b) := by
    intro m
    induction m using Nat.strongRecOn with
    | _ m ih =>
      intro o hm h
      refine Ev.step (fun k => by rw [impl_orbits.l0]) ?_
      refine Ev.pos rfl ?_
      have last : ∀ o' g, OrbPre n a b o' → (g = true → orbSum o' < orbSum o) → (g = false → o' = o ∧ (∀ i, i < n → rd o' (fn a i : Int) = rd o' (i : Int)) ∧ ∀ i, i < n → rd o' (fn b i : Int) = rd o' (i : Int)) →
          Ev (fun k => impl_orbits.l1 k [a, b] o' g [a, b] ((2 : Nat) : Int) ((2 : Nat) : Int)) (orbL a b) := by
        intro o' g h' hg hf
        refine Ev.step (fun k => by rw [impl_orbits.l1]) ?_
        refine Ev.neg (by omega) ?_
        cases g with
        | true => exact ih (orbSum o') (by have := hg rfl; omega) o' (Nat.le_refl _) h'
        | false =>
          obtain ⟨f1, f2, f3⟩ := hf rfl
          refine Ev.step (fun k => by rw [impl_orbits.l0]) ?_
          refine Ev.neg (by simp) (Ev.const ?_)
          congr 1
          exact IsOrb.eq ha hb ⟨h', fun i hi => ⟨f2 i hi, f3 i hi⟩⟩
      have second : ∀ o' g, OrbPre n a b o' → (g = true → orbSum o' < orbSum o) → (g = false → o' = o ∧ True ∧ ∀ i, i < n → rd o' (fn a i : Int) = rd o' (i : Int)) →
          Ev (fun k => impl_orbits.l1 k [a, b] o' g [a, b] ((2 : Nat) : Int) ((1 : Nat) : Int)) (orbL a b) := by
        intro o' g h' hg hf
        refine Ev.step (fun k => by rw [impl_orbits.l1]) ?_
        refine Ev.pos (by omega) (Ev.pos (by omega) (Ev.pos (by simp) ?_))
        rw [r1, lb]
        refine impl_orbits_l2_ev hn ha hb b hb (fun i hi => Con.fb hi) [a, b] o _ _ _ (∀ i, i < n → rd o (fn a i : Int) = rd o (i : Int)) (fun o2 g2 h2 hg2 hf2 => ?_) n 0 (by omega) (by omega) o' g h' hg (fun q => ?_)
        · have e : wrap64 (((1 : Nat) : Int) + 1) = ((2 : Nat) : Int) := by rw [wrap64_id (by omega) (by omega)]; rfl
          rw [e]
          exact last o2 g2 h2 hg2 (fun q => by obtain ⟨z1, z2, z3⟩ := hf2 q; refine ⟨z1, ?_, z3⟩; rw [z1]; exact z2)
        · obtain ⟨z1, _, z3⟩ := hf q
          exact ⟨z1, by rw [z1] at z3; exact z3, fun q hq => by omega⟩
      refine Ev.step (fun k => by rw [impl_orbits.l1]) ?_
      refine Ev.pos (by simp) (Ev.pos (by omega) (Ev.pos (by simp) ?_))
      have r0' : rd_L1 [a, b] 0 = a := rfl
      rw [r0', la]
      refine impl_orbits_l2_ev hn ha hb a ha (fun i hi => Con.fa hi) [a, b] o _ _ _ True (fun o2 g2 h2 hg2 hf2 => ?_) n 0 (by omega) (by omega) o false h (fun q => by cases q) (fun _ => ⟨rfl, trivial, fun q hq => by omega⟩)
      have e1 : wrap64 (0 + 1) = ((1 : Nat) : Int) := by rw [wrap64_id (by omega) (by omega)]; rfl
      rw [e1]
      exact second o2 g2 h2 hg2 hf2
  unfold impl_orbits.f
  have r0' : rd_L1 [a, b] 0 = a := rfl
  refine Ev.pos (by simp) ?_
  rw [r0', la]
  refine Ev.bind (impl_still_ev n hn) ?_
  exact main _ _ (Nat.le_refl _) (OrbPre.start n a b)
/-! ### impl_cornersOf -/
theorem impl_cornersOf_l1_ev (n : Nat) (hn : n ≤ 4194304) (o : List Int) (ho : o.length = n) : ∀ d i, n - i = d → i ≤ n →
    Ev (fun k => impl_cornersOf.l1 k (fixN o i : Nat) o (n : Nat) (i : Nat)) (fixN o n : Nat) := by
  intro d
  induction d with
  | zero =>
    intro i hd hi
    obtain rfl : i = n := by omega
    refine Ev.step (fun k => by rw [impl_cornersOf.l1]) ?_
    exact Ev.neg (by omega) (Ev.const rfl)
  | succ d ih =>
    intro i hd hi
    have hb2 : fixN o i ≤ i := cntP_le _ i
    have := ih (i + 1) (by omega) (by omega)
    refine Ev.step (fun k => by rw [impl_cornersOf.l1]) (Ev.pos (by omega) (Ev.pos (by omega) (Ev.pos (by omega) ?_)))
    rw [wrap64_id (x := (i : Int) + 1) (by omega) (by omega)]
    refine Ev.ite (fun e => ?_) (fun e => ?_)
    · have e2 : fixN o (i + 1) = fixN o i + 1 := by
        unfold fixN; simp only [cntP]; rw [if_pos (decide_eq_true e)]
      rw [e2] at this
      rw [wrap64_id (by omega) (by omega)]
      exact this
    · have e2 : fixN o (i + 1) = fixN o i := by
        unfold fixN; simp only [cntP]; rw [if_neg (fun h => e (of_decide_eq_true h))]; rfl
      rw [e2] at this
      exact this
theorem impl_cornersOf_ev (s : ByteArray) (hw : WOK s) : Ev (fun k => impl_cornersOf.f k s) (corners s : Nat) := by
  have hz := hw.size
  have key : ∀ d i, s.size - i = d → i ≤ s.size → ∀ x4 x5 : List Int, x4.length = 2 * s.size → x5.length = 2 * s.size →
      (∀ q, q < i → rd x5 ((2 * q : Nat) : Int) = gluF s (2 * q) ∧ rd x5 ((2 * q + 1 : Nat) : Int) = gluF s (2 * q + 1)) →
      (∀ q, q < i → rd x4 ((2 * q + 1 : Nat) : Int) = folF s.size (2 * q + 1) ∧ rd x4 (((2 * q + 2) % (2 * s.size) : Nat) : Int) = folF s.size ((2 * q + 2) % (2 * s.size))) →
      Ev (fun k => impl_cornersOf.l0 k s (s.size : Nat) x4 x5 (pars s) (s.size : Nat) (i : Nat)) (corners s : Nat) := by
    intro d
    induction d with
    | zero =>
      intro i hd hi x4 x5 h4 h5 hA hB
      obtain rfl : i = s.size := by omega
      refine Ev.step (fun k => by rw [impl_cornersOf.l0]) ?_
      refine Ev.neg (by omega) ?_
      obtain rfl : x5 = gluL s := known_two h5 (gluL_length s) (fun j hj => rd_gluL s j hj) hA
      obtain rfl : x4 = folL s := known_all h4 (folL_length s) (fun j hj => rd_folL s j hj) hB
      refine Ev.bind (impl_orbits_ev (2 * s.size) (by omega) _ _ (folL_pts s) (gluL_pts hw)) ?_
      have hl : (orbL (folL s) (gluL s)).length = 2 * s.size := by rw [orbL_length, folL_length]
      rw [hl]
      exact impl_cornersOf_l1_ev (2 * s.size) (by omega) _ hl (2 * s.size) 0 (by omega) (by omega)
    | succ d ih =>
      intro i hd hi x4 x5 h4 h5 hA hB
      have hi' : i < s.size := by omega
      obtain ⟨p1, p2, p3, p4⟩ := par_spec hw hi'
      obtain ⟨m, hm, HMD, f0, f1, W3, W6⟩ := corner_nums s.size i hi' hz.2
      have HG := Aside0.mk (glu_at s i)
      have HW := Aside0.mk (cast_nums i (by omega))
      have HP := Aside0.mk (cast_nums (par s i) (by omega))
      refine Ev.step (fun k => by rw [impl_cornersOf.l0]) ?_
      rw [rd_pars s i hi', HW.out.1, HW.out.2.1, HW.out.2.2.1, W6.out, HP.out.1, HP.out.2.1]
      simp only [toNat_nat]
      have hpl := pars_length s
      refine Ev.pos (by omega) ?_
      refine Ev.pos (by omega) ?_
      refine Ev.pos (by omega) ?_
      refine Ev.neg (by omega) ?_
      refine Ev.pos (by omega) ?_
      refine Ev.pos (by omega) ?_
      refine Ev.pos (by omega) ?_
      refine Ev.pos (by omega) ?_
      refine Ev.bindc rfl ?_
      have go : ∀ a b : Nat, a = gluF s (2 * i) → b = gluF s (2 * i + 1) → Ev (fun k => impl_cornersOf.l0 k s (s.size : Nat) ((x4.set (2 * i + 1) (m : Int)).set m ((2 * i + 1 : Nat) : Int)) ((x5.set (2 * i) (a : Int)).set (2 * i + 1) (b : Int)) (pars s) (s.size : Nat) ((i + 1 : Nat) : Int)) (corners s : Nat) := by
        intro a b ha hb
        refine ih (i + 1) (by omega) (by omega) _ _ (by simp [h4]) (by simp [h5]) (fun q hq => ?_) (fun q hq => ?_)
        · rw [ha, hb]
          by_cases e : q = i
          · subst e
            exact ⟨known_set (by simp; omega) (.inr (known_set (by omega) (.inl rfl))), known_set (by simp; omega) (.inl rfl)⟩
          · obtain ⟨a1, a2⟩ := hA q (by omega)
            exact ⟨known_set (by simp; omega) (.inr (known_set (by omega) (.inr a1))), known_set (by simp; omega) (.inr (known_set (by omega) (.inr a2)))⟩
        · have e1 : ((2 * i + 1 : Nat) : Int) = (folF s.size m : Int) := by rw [f1]
          have e0 : (m : Int) = (folF s.size (2 * i + 1) : Int) := by rw [f0]
          have hset : ∀ q, (q = 2 * i + 1 ∨ q = m ∨ rd x4 (q : Int) = folF s.size q) → rd ((x4.set (2 * i + 1) (m : Int)).set m ((2 * i + 1 : Nat) : Int)) (q : Int) = folF s.size q := by
            intro q hq
            rw [e1, e0]
            refine known_set (by simp; omega) ?_
            rcases hq with h | h | h
            · exact .inr (known_set (by omega) (.inl h))
            · exact .inl h
            · exact .inr (known_set (by omega) (.inr h))
          by_cases e : q = i
          · subst e
            exact ⟨hset _ (.inl rfl), hset _ (.inr (.inl HMD.out))⟩
          · obtain ⟨a1, a2⟩ := hB q (by omega)
            exact ⟨hset _ (.inr (.inr a1)), hset _ (.inr (.inr a2))⟩
      refine Ev.pos (by omega) ?_
      refine Ev.pos (by omega) ?_
      refine Ev.pos (by omega) ?_
      refine Ev.ite (fun e => ?_) (fun e => ?_)
      · obtain ⟨g0, g1⟩ := HG.out
        rw [if_pos ((bt_same hw hi').1 e)] at g0 g1
        refine Ev.pos (by omega) ?_
        refine Ev.pos (by omega) ?_
        refine Ev.pos (by omega) ?_
        exact go _ _ g0.symm g1.symm
      · obtain ⟨g0, g1⟩ := HG.out
        rw [if_neg (fun h => e ((bt_same hw hi').2 h))] at g0 g1
        refine Ev.pos (by omega) ?_
        refine Ev.pos (by omega) ?_
        refine Ev.pos (by omega) ?_
        exact go _ _ g0.symm g1.symm
  have W0 := Aside0.mk (cast_nums s.size (by omega)).1
  unfold impl_cornersOf.f
  rw [W0.out]
  refine Ev.pos (by omega) (Ev.pos (by omega) (Ev.bind (impl_partnersOf_ev s hw) ?_))
  rw [pars_length]
  exact key s.size 0 (by omega) (by omega) _ _ (by rw [List.length_replicate]; omega) (by rw [List.length_replicate]; omega) (fun q hq => by omega) (fun q hq => by omega)
/-! ### impl_WordNumber -/
theorem impl_WordNumber_ev (s : ByteArray) : Ev (fun k => impl_WordNumber.f k s) (if WOK s then (corners s : Int) - (s.size / 2 : Nat) + 1 else -100) := by
  unfold impl_WordNumber.f
  refine Ev.bindc (impl_WordValid_eq s) ?_
  by_cases hw : WOK s
  · rw [if_pos hw]
    refine Ev.pos (decide_eq_true hw) (Ev.bind (impl_cornersOf_ev s hw) (Ev.const ?_))
    have hz := hw.size
    have hc : corners s ≤ 2 * s.size := cntP_le _ _
    rw [show ((s.size : Int) / 2) = ((s.size / 2 : Nat) : Int) from rfl, wrap64_id (x := ((s.size / 2 : Nat) : Int)) (by omega) (by omega), wrap64_id (x := (corners s : Int) - _) (by omega) (by omega), wrap64_id (by omega) (by omega)]
  · rw [if_neg hw]
    exact Ev.neg (by simp [hw]) (Ev.const rfl)
/-! ### impl_WordSided -/
theorem impl_WordSided_ev (s : ByteArray) : Ev (fun k => impl_WordSided.f k s) (decide (WSD s)) := by
  unfold impl_WordSided.f
  refine Ev.bindc (impl_WordValid_eq s) ?_
  by_cases hw : WOK s
  · have hz := hw.size
    rw [decide_eq_true hw]
    refine Ev.pos rfl (Ev.bind (impl_partnersOf_ev s hw) ?_)
    rw [pars_length]
    have key : ∀ d i, s.size - i = d → i ≤ s.size → (∀ q, q < i → wsm s q ≠ wsm s (par s q)) → Ev (fun k => impl_WordSided.l0 k s (pars s) (s.size : Nat) (i : Nat)) (decide (WSD s)) := by
      intro d
      induction d with
      | zero =>
        intro i hd hi hq
        obtain rfl : i = s.size := by omega
        refine Ev.step (fun k => by rw [impl_WordSided.l0]) (Ev.neg (by omega) (Ev.const ?_))
        rw [decide_eq_true (show WSD s from ⟨hw, hq⟩)]
      | succ d ih =>
        intro i hd hi hq
        obtain ⟨p1, p2, p3, p4⟩ := par_spec hw (i := i) (by omega)
        refine Ev.step (fun k => by rw [impl_WordSided.l0]) (Ev.pos (by omega) (Ev.pos (by omega) (Ev.pos (by rw [pars_length]; omega) (Ev.pos (by omega) ?_))))
        rw [rd_pars s i (by omega)]
        refine Ev.pos (by omega) (Ev.pos (by omega) (Ev.ite (fun e => Ev.const ?_) (fun e => ?_)))
        · rw [decide_eq_false]
          intro w
          exact w.2 i (by omega) ((bt_same hw (by omega)).1 e)
        · rw [wrap64_id (by omega) (by omega)]
          exact ih (i + 1) (by omega) (by omega) (fun q hqi => by
            by_cases eq : q = i
            · subst eq; exact fun e2 => e ((bt_same hw (by omega)).2 e2)
            · exact hq q (by omega))
    exact key s.size 0 (by omega) (by omega) (fun q hq => by omega)
  · rw [decide_eq_false hw, decide_eq_false (fun w : WSD s => hw w.1)]
    exact Ev.neg (by simp) (Ev.const rfl)
/-! ### strconv_Itoa -/
theorem strconv_Itoa_dig (n : Int) (h0 : 0 ≤ n) (h1 : n < 10) : strconv_Itoa.f n = some (strOfNums [48 + n]) := by
  unfold strconv_Itoa.f
  rw [if_pos h0, if_pos h1]
/-! ### impl_WordClass -/
theorem impl_WordClass_ev (s : ByteArray) : Ev (fun k => impl_WordClass.f k s) (if WOK s then clsS s else (⟨#[]⟩ : ByteArray)) := by
  have z1 : ∀ x : Int, (strOfNums [x]).size = 1 := fun x => strOfNums_size _
  unfold impl_WordClass.f
  refine Ev.bindc (impl_WordValid_eq s) ?_
  by_cases hw : WOK s
  · have hn := nnW_lt hw
    have hnum := impl_WordNumber_ev s
    rw [if_pos hw] at hnum
    rw [if_pos hw]
    refine Ev.pos (decide_eq_true hw) ?_
    refine Ev.bind hnum ?_
    refine Ev.bind (impl_WordSided_ev s) ?_
    rw [nnW_eq hw, wrap64_id (x := (nnW s : Int)) (by omega) (by omega)]
    by_cases hs' : WSD s
    · refine Ev.pos (decide_eq_true hs') ?_
      rw [show Int.tdiv (nnW s : Int) 2 = ((nnW s / 2 : Nat) : Int) from (Int.ofNat_tdiv _ _).symm, wrap64_id (by omega) (by omega)]
      refine Ev.bindc (strconv_Itoa_dig _ (by omega) (by omega)) ?_
      refine Ev.pos (by rw [z1]; omega) (Ev.const ?_)
      unfold clsS; rw [if_pos hs']
    · refine Ev.neg (by simp [hs']) ?_
      refine Ev.bindc (strconv_Itoa_dig _ (by omega) (by omega)) ?_
      refine Ev.pos (by rw [z1]; omega) (Ev.const ?_)
      unfold clsS; rw [if_neg hs']
  · rw [if_neg hw]
    exact Ev.neg (by simp [hw]) (Ev.const rfl)
/-! ### impl_WordSame -/
theorem impl_WordSame_ev (a b : ByteArray) : Ev (fun k => impl_WordSame.f k a b) (sameS a b) := by
  unfold impl_WordSame.f
  refine Ev.bindc (impl_WordValid_eq a) ?_
  by_cases hw : WOK a
  · refine Ev.pos (decide_eq_true hw) ?_
    refine Ev.bind (impl_WordClass_ev a) ?_
    refine Ev.bind (impl_WordClass_ev b) ?_
    refine Ev.const ?_
    rw [if_pos hw, toList_beq]
    unfold sameS
    by_cases hb : WOK b
    · rw [if_pos hb]; simp [hw, hb]
    · rw [if_neg hb]; simp [hb, clsS_ne]
  · refine Ev.neg (by simp [hw]) (Ev.const ?_)
    simp [sameS, hw]
/-! ### impl_named -/
theorem impl_named_ev (s : ByteArray) (hw : WOK s) (q : Int) (hq0 : 0 ≤ q) (hq1 : q ≤ 10) : Ev (fun k => impl_named.f k s q) (strOfNums (namesL s q)) := by
  have hz := hw.size
  have key : ∀ d i, s.size - i = d → i ≤ s.size → ∀ (x5 : List Int), x5.length = s.size →
      (∀ f, f < i → f < par s f → x5[f]? = some (nmb s q f) ∧ x5[par s f]? = some (nmb s q (par s f))) →
      Ev (fun k => impl_named.l0 k s (q + (nf s i : Int)) x5 (pars s) (s.size : Nat) (i : Nat)) (strOfNums (namesL s q)) := by
    intro d
    induction d with
    | zero =>
      intro i hd hi x5 h5 hA
      obtain rfl : i = s.size := by omega
      refine Ev.step (fun k => by rw [impl_named.l0]) (Ev.neg (by omega) (Ev.const ?_))
      congr 2
      refine List.ext_getElem? (fun j => ?_)
      by_cases hj : j < s.size
      · rw [List.getElem?_eq_getElem (l := namesL s q) (by rw [namesL_length]; exact hj), namesL_get s q j hj]
        obtain ⟨p1, p2, p3, p4⟩ := par_spec hw hj
        by_cases hf : j < par s j
        · exact (hA j hj hf).1
        · have := (hA (par s j) p1 (by rw [par_par hw hj]; omega)).2
          rwa [par_par hw hj] at this
      · rw [List.getElem?_eq_none (by omega), List.getElem?_eq_none (by rw [namesL_length]; omega)]
    | succ d ih =>
      intro i hd hi x5 h5 hA
      have hi' : i < s.size := by omega
      obtain ⟨p1, p2, p3, p4⟩ := par_spec hw hi'
      have hn := nf_le s i
      refine Ev.step (fun k => by rw [impl_named.l0]) (Ev.pos (by omega) (Ev.pos (by omega) (Ev.pos (by rw [pars_length]; omega) ?_)))
      rw [rd_pars s i hi', wrap64_id (x := (i : Int) + 1) (by omega) (by omega)]
      by_cases hf : i < par s i
      · have en : nf s (i + 1) = nf s i + 1 := by simp only [nf]; rw [if_pos hf]
        have em : nmb s q i = 97 + (q + nf s i) := by unfold nmb; rw [show fst_ s i = i from if_pos hf, if_pos rfl]
        have ep : fst_ s (par s i) = i := by unfold fst_; rw [par_par hw hi', if_neg (by omega)]
        have emp : nmb s q (par s i) = if wsm s i = wsm s (par s i) then 97 + (q + nf s i) else 65 + (q + nf s i) := by
          unfold nmb; rw [ep]
          by_cases e : wsm s i = wsm s (par s i)
          · rw [if_pos e, if_pos e.symm]
          · rw [if_neg e, if_neg (fun h => e h.symm)]
        have hx1 : wrap64 (97 + (q + (nf s i : Int))) % 256 = nmb s q i := by
          rw [wrap64_id (by omega) (by omega), Int.emod_eq_of_lt (by omega) (by omega), em]
        refine Ev.neg (by omega) (Ev.pos (by omega) (Ev.bindc rfl (Ev.pos (by omega) (Ev.pos (by omega) (Ev.bindc rfl (Ev.pos (by omega) (Ev.pos (by omega) ?_)))))))
        rw [hx1, wrap64_id (x := q + (nf s i : Int) + 1) (by omega) (by omega)]
        simp only [toNat_nat]
        have er : rd (x5.set i (nmb s q i)) (i : Int) = nmb s q i := rd_get? _ _ _ (by rw [List.getElem?_set_self (by omega)])
        rw [er]
        have er2 : rd ((x5.set i (nmb s q i)).set (par s i) (nmb s q i)) (par s i : Int) = nmb s q i := rd_get? _ _ _ (by rw [List.getElem?_set_self (by simp; omega)])
        rw [er2]
        have go : ∀ y : Int, y = nmb s q (par s i) → Ev (fun k => impl_named.l0 k s (q + (nf s i : Int) + 1) ((x5.set i (nmb s q i)).set (par s i) y) (pars s) (s.size : Nat) ((i : Int) + 1)) (strOfNums (namesL s q)) := by
          intro y hy
          have := ih (i + 1) (by omega) (by omega) ((x5.set i (nmb s q i)).set (par s i) y) (by simp [h5]) (fun f hfi hff => by
            by_cases e : f = i
            · subst e
              rw [List.getElem?_set_ne (by omega), List.getElem?_set_self (by omega), List.getElem?_set_self (by simp; omega), hy]
              exact ⟨rfl, rfl⟩
            · obtain ⟨a1, a2⟩ := hA f (by omega) hff
              have g1 : f ≠ par s i := by omega
              have g2 : par s f ≠ i := fun h => by have := par_par hw (i := f) (by omega); rw [h] at this; omega
              have g3 : par s f ≠ par s i := fun h => by
                have h1 := par_par hw (i := f) (by omega)
                have h2 := par_par hw hi'
                rw [h, h2] at h1; omega
              rw [List.getElem?_set_ne (by omega), List.getElem?_set_ne (by omega), List.getElem?_set_ne (by omega), List.getElem?_set_ne (by omega)]
              exact ⟨a1, a2⟩)
          rw [en, show q + ((nf s i + 1 : Nat) : Int) = q + (nf s i : Int) + 1 by omega] at this
          exact this
        refine Ev.ite (fun e => ?_) (fun e => ?_)
        · exact go _ (by rw [emp, if_pos ((bt_same hw hi').1 e), em])
        · rw [List.set_set]
          exact go _ (by rw [emp, if_neg (fun h => e ((bt_same hw hi').2 h)), em, xor32 _ (by omega) (by omega)])
      · have en : nf s (i + 1) = nf s i := by simp only [nf]; rw [if_neg hf]; rfl
        refine Ev.pos (by omega) ?_
        have := ih (i + 1) (by omega) (by omega) x5 h5 (fun f hfi hff => by
          by_cases e : f = i
          · subst e; omega
          · exact hA f (by omega) hff)
        rw [en] at this
        exact this
  unfold impl_named.f
  refine Ev.pos (by omega) (Ev.pos (by omega) (Ev.bind (impl_partnersOf_ev s hw) ?_))
  have := key s.size 0 (by omega) (by omega) (List.replicate s.size 0) (by simp) (fun f hf => by omega)
  rw [show q + ((nf s 0 : Nat) : Int) = q by simp [nf]] at this
  rw [pars_length]
  exact this
/-! ### impl_WordNames -/
theorem impl_WordNames_ev (s : ByteArray) : Ev (fun k => impl_WordNames.f k s) (if WOK s then (strOfNums (namesL s 0), true) else ((⟨#[]⟩ : ByteArray), false)) := by
  unfold impl_WordNames.f
  refine Ev.bindc (impl_WordValid_eq s) ?_
  by_cases hw : WOK s
  · rw [if_pos hw]
    exact Ev.pos (decide_eq_true hw) (Ev.bind (impl_named_ev s hw 0 (by omega) (by omega)) (Ev.const rfl))
  · rw [if_neg hw]
    exact Ev.neg (by simp [hw]) (Ev.const rfl)
/-! ### spec_l6Rd_pick -/
theorem spec_l6Rd_pick_ex (l : List Int) (hb : Bytes l) (hn : l.length ≤ 2000) (p a : Int) (hp0 : 0 ≤ p) (hp1 : p ≤ 1099511627776) : ∃ x, Ev (fun k => spec_l6Rd_pick.f k l p a) (x, p + 1) ∧ 0 ≤ x ∧ (1 ≤ a → x < a) := by
  have hw : wrap64 (p + 1) = p + 1 := wrap64_id (by omega) (by omega)
  have ht : Ev (fun k => spec_l6Rd_pick.j0 k a true l (p + 1)) (0, p + 1) := by
    refine Ev.step (fun k => by rw [spec_l6Rd_pick.j0]) ?_
    exact Ev.pos rfl (Ev.const rfl)
  by_cases ha : a < 1
  · refine ⟨0, ?_, Int.le_refl _, fun h => by omega⟩
    unfold spec_l6Rd_pick.f
    rw [hw]
    exact Ev.pos ha ht
  · by_cases hl : (l.length : Int) = 0
    · refine ⟨0, ?_, Int.le_refl _, fun h => by omega⟩
      unfold spec_l6Rd_pick.f
      rw [hw]
      refine Ev.neg ha ?_
      rw [show ((l.length : Int) == 0) = true from beq_iff_eq.2 hl]
      exact ht
    · have hw2 : wrap64 (p + 1 - 1) = p := by rw [wrap64_id (by omega) (by omega)]; omega
      by_cases hlt : p < l.length
      · obtain ⟨b0, b1⟩ := hb.at p hp0 hlt
        have hx := tmod_bd (rd l p) a b0 (by omega)
        refine ⟨Int.tmod (rd l p) a, ?_, hx.1, fun _ => hx.2⟩
        unfold spec_l6Rd_pick.f
        rw [hw, show ((l.length : Int) == 0) = false from beq_eq_false_iff_ne.2 hl]
        refine Ev.neg ha ?_
        refine Ev.step (fun k => by rw [spec_l6Rd_pick.j0]) ?_
        rw [hw2, wrap64_id (x := rd l p) (by omega) (by omega)]
        refine Ev.neg (by simp) ?_
        refine Ev.pos hlt ?_
        refine Ev.pos hp0 ?_
        refine Ev.neg (by omega) ?_
        exact Ev.const rfl
      · obtain ⟨m0, m1⟩ := tmod_bd p (l.length : Int) hp0 (by omega)
        have e1 : wrap64 (p * 7) = p * 7 := wrap64_id (by omega) (by omega)
        have e2 : wrap64 (p * 7 + 3) = p * 7 + 3 := wrap64_id (by omega) (by omega)
        obtain ⟨n0, n1⟩ := tmod_bd (p * 7 + 3) (l.length : Int) (by omega) (by omega)
        have d0 : 0 ≤ Int.tdiv p (l.length : Int) := Int.tdiv_nonneg hp0 (by omega)
        have d1 : Int.tdiv p (l.length : Int) ≤ p := by
          rw [Int.tdiv_eq_ediv_of_nonneg hp0]; exact Int.ediv_le_self _ hp0
        obtain ⟨b0, b1⟩ := hb.at _ m0 m1
        obtain ⟨c0, c1⟩ := hb.at _ n0 n1
        suffices hs : ∃ x, Ev (fun k => spec_l6Rd_pick.j0 k a false l (p + 1)) (x, p + 1) ∧ 0 ≤ x ∧ (1 ≤ a → x < a) by
          obtain ⟨x, h1, h2⟩ := hs
          refine ⟨x, ?_, h2⟩
          unfold spec_l6Rd_pick.f
          rw [hw, show ((l.length : Int) == 0) = false from beq_eq_false_iff_ne.2 hl]
          exact Ev.neg ha h1
        have hun : ∀ r, (∃ x, Ev (fun _ : Nat => r) (x, p + 1) ∧ 0 ≤ x ∧ (1 ≤ a → x < a)) →
            (∀ k, spec_l6Rd_pick.j0 (k + 1) a false l (p + 1) = r) → ∃ x, Ev (fun k => spec_l6Rd_pick.j0 k a false l (p + 1)) (x, p + 1) ∧ 0 ≤ x ∧ (1 ≤ a → x < a) := by
          rintro r ⟨x, h1, h2⟩ h3
          exact ⟨x, Ev.step h3 h1, h2⟩
        refine hun _ ?_ (fun k => by
          rw [spec_l6Rd_pick.j0, if_neg (by simp), hw2, if_neg hlt, if_neg hl, if_pos m0, if_pos m1, e1, e2, if_pos n0, if_pos n1, if_neg (by omega)])
        generalize rd l (Int.tmod p (l.length : Int)) = u at *
        generalize rd l (Int.tmod (p * 7 + 3) (l.length : Int)) = v at *
        generalize Int.tdiv p (l.length : Int) = w at *
        rw [wrap64_id (x := u) (by omega) (by omega), wrap64_id (x := v) (by omega) (by omega), wrap64_id (x := w) (by omega) (by omega),
          wrap64_id (x := u * 131) (by omega) (by omega), wrap64_id (x := v * 1117) (by omega) (by omega), wrap64_id (x := p * 29) (by omega) (by omega), wrap64_id (x := w * 53) (by omega) (by omega),
          wrap64_id (x := u * 131 + v * 1117) (by omega) (by omega), wrap64_id (x := u * 131 + v * 1117 + p * 29) (by omega) (by omega), wrap64_id (x := u * 131 + v * 1117 + p * 29 + w * 53) (by omega) (by omega)]
        have hX0 : 0 ≤ u * 131 + v * 1117 + p * 29 + w * 53 := by omega
        have hX1 : u * 131 + v * 1117 + p * 29 + w * 53 < 4611686018427387904 := by omega
        generalize u * 131 + v * 1117 + p * 29 + w * 53 = X at *
        have hq : Int.tdiv X 64 = X / 64 := Int.tdiv_eq_ediv_of_nonneg hX0
        rw [hq, wrap64_id (x := X / 64) (by omega) (by omega)]
        have hxor := xor_nonneg X (X / 64) hX0 (by omega) hX1 (by omega)
        obtain ⟨r0, r1⟩ := tmod_bd _ a hxor (by omega)
        exact ⟨_, Ev.const rfl, r0, fun _ => r1⟩
/-! ### spec_l8Name -/
theorem spec_l8Name_eq (n : Int) (b : Bool) (h0 : 0 ≤ n) (h1 : n < 100) : spec_l8Name.f n b = some (strOfNums [if b = true then 97 + n else 65 + n]) := by
  unfold spec_l8Name.f
  rw [wrap64_id (x := 97 + n) (by omega) (by omega), wrap64_id (x := 65 + n) (by omega) (by omega), Int.emod_eq_of_lt (a := 97 + n) (by omega) (by omega), Int.emod_eq_of_lt (a := 65 + n) (by omega) (by omega)]
  cases b <;> rfl
/-! ### spec_l8Letter -/
theorem spec_l8Letter_ev (x : Int) (h0 : 0 ≤ x) (h1 : x ≤ 255) : Ev (fun k => spec_l8Letter.f k x) (slet x) := by
  have hj : ∀ b, Ev (fun k => spec_l8Letter.j0 k x b) (if b = true then (x - 97) % 256 else if x ≥ 65 then if x < 70 then (x - 65) % 256 else -1 else -1) := by
    intro b
    refine Ev.step (fun k => by rw [spec_l8Letter.j0]) ?_
    refine Ev.const ?_
    repeat' split
    all_goals rfl
  unfold spec_l8Letter.f slet
  refine Ev.ite (fun h => Ev.to (hj _) ?_) (fun h => Ev.to (hj _) ?_)
  · by_cases h2 : x < 102 <;> simp [h2] <;> omega
  · simp
    split <;> split <;> omega
/-! ### spec_l8Small -/
theorem spec_l8Small_eq (x : Int) : spec_l8Small.f x = some (decide (x ≥ 97)) := rfl
/-! ### spec_l8Other -/
theorem spec_l8Other_ev (x : Int) (h0 : 0 ≤ x) (h1 : x ≤ 255) (hx : 0 ≤ slet x) : Ev (fun k => spec_l8Other.f k x) (strOfNums [fl x]) := by
  have hr := slet_range x
  unfold spec_l8Other.f
  refine Ev.bind (spec_l8Letter_ev x h0 h1) ?_
  refine Ev.bindc (spec_l8Small_eq _) ?_
  refine Ev.bindc (spec_l8Name_eq _ _ hx (by omega)) ?_
  refine Ev.const ?_
  congr 3
  unfold fl slet at *
  by_cases e : x ≥ 97
  · simp [e] at hx ⊢
    split at hx <;> simp_all <;> omega
  · simp [e] at hx ⊢
    split at hx <;> simp_all <;> omega
/-! ### spec_l6Rd_of -/
theorem spec_l6Rd_of_ex (l : List Int) (hb : Bytes l) (hn : l.length ≤ 2000) (p : Int) (xs : List ByteArray) (hx : 1 ≤ xs.length) (hs : ∀ s ∈ xs, s.size ≤ 100) (hp0 : 0 ≤ p) (hp1 : p ≤ 1099511627776) :
    ∃ s, Ev (fun k => spec_l6Rd_of.f k l p xs) (s, p + 1) ∧ s.size ≤ 100 := by
  obtain ⟨x, h1, h2, h3⟩ := spec_l6Rd_pick_ex l hb hn p (xs.length : Int) hp0 hp1
  have h4 := h3 (by omega)
  refine ⟨rdOf ByteArray.empty xs x, ?_, ?_⟩
  · unfold spec_l6Rd_of.f
    refine Ev.bind h1 ?_
    refine Ev.pos h2 ?_
    refine Ev.pos h4 ?_
    exact Ev.const rfl
  · obtain ⟨n, rfl⟩ := Int.eq_ofNat_of_zero_le h2
    have hn : n < xs.length := by omega
    have : rdOf ByteArray.empty xs (n : Int) = xs[n] := by simp [rdOf, List.getD_eq_getElem?_getD, hn]
    rw [this]
    exact hs _ (List.getElem_mem hn)
/-! ### spec_l92Word -/
theorem spec_l92Word_ex (l : List Int) (hb : Bytes l) (hn : l.length ≤ 2000) (p a : Int) (hp0 : 0 ≤ p) (hp1 : p ≤ 1000000) (ha0 : 1 ≤ a) (ha1 : a ≤ 5) :
    ∃ s p', Ev (fun k => spec_l92Word.f k l p a) (s, p') ∧ s.size ≤ 200 ∧ 0 ≤ p' ∧ p' ≤ p + 200 := by
  obtain ⟨n, n1, n2, n3⟩ := spec_l6Rd_pick_ex l hb hn p a hp0 (by omega)
  have n4 := n3 (by omega)
  obtain ⟨b, b1, b2, b3⟩ := spec_l6Rd_pick_ex l hb hn (p + 1) 2 (by omega) (by omega)
  have z1 : ∀ x : Int, (strOfNums [x]).size = 1 := fun x => strOfNums_size _
  have z2 : ∀ (s : ByteArray) (i j : Nat), (s.extract i j).size ≤ s.size := fun s i j => by rw [ByteArray.size_extract]; omega
  have ins : ∀ (s c : ByteArray) (i : Int), 0 ≤ i → i ≤ s.size → ((s.extract 0 i.toNat ++ c) ++ s.extract i.toNat s.size).size = s.size + c.size := by
    intro s c i h0 h1
    rw [ByteArray.size_append, ByteArray.size_append, ByteArray.size_extract, ByteArray.size_extract]; omega
  have key : ∀ d i, (n + 1 - i).toNat = d → 0 ≤ i → i ≤ n + 1 → ∀ (s : ByteArray) (q : Int) (bo : Bool), s.size ≤ 2 * i → 0 ≤ q → q ≤ p + 2 + 4 * i →
      ∃ t q', Ev (fun k => spec_l92Word.l0 k s (n + 1) bo i l q) (t, q') ∧ t.size ≤ 200 ∧ 0 ≤ q' ∧ q' ≤ p + 200 := by
    intro d
    induction d with
    | zero =>
      intro i hd hi0 hi s q bo hs hq0 hq1
      obtain ⟨x, x1, x2, x3⟩ := spec_l6Rd_pick_ex l hb hn q 24 hq0 (by omega)
      by_cases e : x = 0
      · obtain ⟨t, t1, t2⟩ := spec_l6Rd_of_ex l hb hn (q + 1) [(⟨#[97]⟩ : ByteArray), (⟨#[102]⟩ : ByteArray), (⟨#[101, 101]⟩ : ByteArray), (⟨#[32]⟩ : ByteArray), (⟨#[65]⟩ : ByteArray)] (by simp) (fun u hu => by
          simp only [List.mem_cons, List.not_mem_nil, or_false] at hu
          rcases hu with rfl | rfl | rfl | rfl | rfl <;> decide) (by omega) (by omega)
        refine ⟨s ++ t, q + 1 + 1, ?_, by rw [ByteArray.size_append]; omega, by omega, by omega⟩
        refine Ev.step (fun k => by rw [spec_l92Word.l0]) ?_
        refine Ev.neg (by omega) ?_
        refine Ev.bind x1 ?_
        refine Ev.pos e ?_
        refine Ev.bind t1 ?_
        refine Ev.pos (show s.size + t.size ≤ 9223372036854775807 by omega) ?_
        exact Ev.const rfl
      · refine ⟨s, q + 1, ?_, by omega, by omega, by omega⟩
        refine Ev.step (fun k => by rw [spec_l92Word.l0]) ?_
        refine Ev.neg (by omega) ?_
        refine Ev.bind x1 ?_
        refine Ev.neg e ?_
        exact Ev.const rfl
    | succ d ih =>
      intro i hd hi0 hi s q bo hs hq0 hq1
      obtain ⟨x, x1, x2, x3⟩ := spec_l6Rd_pick_ex l hb hn q 2 hq0 (by omega)
      obtain ⟨y, y1, y2, y3⟩ := spec_l6Rd_pick_ex l hb hn (q + 1) 2 (by omega) (by omega)
      -- the letters
      have hA := spec_l8Name_eq i (x == 0) hi0 (by omega)
      have hB := spec_l8Name_eq i (y == 0) hi0 (by omega)
      have hu : ∀ bb : Bool, 0 ≤ slet (if bb = true then 97 + i else 65 + i) ∧ 0 ≤ (if bb = true then 97 + i else 65 + i) ∧ (if bb = true then 97 + i else 65 + i) ≤ 255 := fun bb => by
        obtain ⟨l1, l2⟩ := slet_small hi0 (show i < 5 by omega)
        cases bb <;> simp <;> omega
      have hux := hu (x == 0)
      generalize (if (x == 0) = true then 97 + i else 65 + i) = u at hA hux
      generalize (if (y == 0) = true then 97 + i else 65 + i) = v at hB
      have hbu : bt (strOfNums [u]) 0 = u := bt_strOfNums [u] 0 (by simp) hux.2.1 hux.2.2
      clear hu
      have ww : wrap64 (i + 1) = i + 1 := wrap64_id (by omega) (by omega)
      have tail : ∀ c : ByteArray, c.size = 1 → ∃ t q', (∃ x' y' : Int, 0 ≤ x' ∧ x' ≤ s.size ∧ 0 ≤ y' ∧ y' ≤ ((s.extract 0 x'.toNat ++ strOfNums [u]) ++ s.extract x'.toNat s.size).size ∧
          Ev (fun k => spec_l6Rd_pick.f k l (q + 1 + 1) ((s.size : Int) + 1)) (x', q + 1 + 1 + 1) ∧
          Ev (fun k => spec_l6Rd_pick.f k l (q + 1 + 1 + 1) ((((s.extract 0 x'.toNat ++ strOfNums [u]) ++ s.extract x'.toNat s.size).size : Int) + 1)) (y', q + 1 + 1 + 1 + 1) ∧
          Ev (fun k => spec_l92Word.l0 k ((((s.extract 0 x'.toNat ++ strOfNums [u]) ++ s.extract x'.toNat s.size).extract 0 y'.toNat ++ c) ++ ((s.extract 0 x'.toNat ++ strOfNums [u]) ++ s.extract x'.toNat s.size).extract y'.toNat ((s.extract 0 x'.toNat ++ strOfNums [u]) ++ s.extract x'.toNat s.size).size) (n + 1) bo (i + 1) l (q + 1 + 1 + 1 + 1)) (t, q')) ∧ t.size ≤ 200 ∧ 0 ≤ q' ∧ q' ≤ p + 200 := by
        intro c hc
        obtain ⟨x', a1, a2, a3⟩ := spec_l6Rd_pick_ex l hb hn (q + 1 + 1) ((s.size : Int) + 1) (by omega) (by omega)
        have a4 := a3 (by omega)
        have s1 := ins s (strOfNums [u]) x' a2 (by omega)
        rw [z1] at s1
        generalize hs2 : (s.extract 0 x'.toNat ++ strOfNums [u]) ++ s.extract x'.toNat s.size = s2 at *
        obtain ⟨y', c1, c2, c3⟩ := spec_l6Rd_pick_ex l hb hn (q + 1 + 1 + 1) ((s2.size : Int) + 1) (by omega) (by omega)
        have c4 := c3 (by omega)
        have s3 := ins s2 c y' c2 (by omega)
        obtain ⟨t, q', t1, t2, t3, t4⟩ := ih (i + 1) (by omega) (by omega) (by omega) ((s2.extract 0 y'.toNat ++ c) ++ s2.extract y'.toNat s2.size) (q + 1 + 1 + 1 + 1) bo (by omega) (by omega) (by omega)
        refine ⟨t, q', ⟨x', y', a2, by omega, c2, ?_, a1, ?_, ?_⟩, t2, t3, t4⟩
        · rw [hs2]; omega
        · rw [hs2]; exact c1
        · rw [hs2]; exact t1
      cases bo with
      | true =>
        have hoth := spec_l8Other_ev u hux.2.1 hux.2.2 hux.1
        obtain ⟨t, q', ⟨x', y', b1, b2, b3, b4, E1, E2, E3⟩, t2, t3, t4⟩ := tail (strOfNums [fl u]) (z1 _)
        refine ⟨t, q', ?_, t2, t3, t4⟩
        have s1 := ins s (strOfNums [u]) x' b1 b2
        rw [z1] at s1
        have sz1 := z2 s 0 x'.toNat
        have sz2 := z2 s x'.toNat s.size
        refine Ev.step (fun k => by rw [spec_l92Word.l0]) ?_
        refine Ev.pos (by omega) ?_
        refine Ev.bind x1 ?_
        refine Ev.bindc hA ?_
        refine Ev.bind y1 ?_
        refine Ev.bindc hB ?_
        refine Ev.pos rfl ?_
        refine Ev.pos (by rw [z1]; omega) ?_
        rw [hbu]
        refine Ev.bind hoth ?_
        rw [wrap64_id (x := (s.size : Int) + 1) (by omega) (by omega)]
        refine Ev.bind E1 ?_
        dsimp only
        refine Ev.pos b1 ?_
        refine Ev.pos b2 ?_
        refine Ev.pos (show _ + _ ≤ 9223372036854775807 by rw [z1]; omega) ?_
        refine Ev.pos (show _ + _ ≤ 9223372036854775807 by rw [ByteArray.size_append, z1]; omega) ?_
        generalize hs2 : (s.extract 0 x'.toNat ++ strOfNums [u]) ++ s.extract x'.toNat s.size = s2 at *
        rw [wrap64_id (x := (s2.size : Int) + 1) (by omega) (by omega), ww]
        have sz3 := z2 s2 0 y'.toNat
        have sz4 := z2 s2 y'.toNat s2.size
        refine Ev.bind E2 ?_
        dsimp only
        refine Ev.pos b3 ?_
        refine Ev.pos b4 ?_
        refine Ev.pos (show _ + _ ≤ 9223372036854775807 by rw [z1]; omega) ?_
        refine Ev.pos (show _ + _ ≤ 9223372036854775807 by rw [ByteArray.size_append, z1]; omega) ?_
        exact E3
      | false =>
        obtain ⟨t, q', ⟨x', y', b1, b2, b3, b4, E1, E2, E3⟩, t2, t3, t4⟩ := tail (strOfNums [v]) (z1 _)
        refine ⟨t, q', ?_, t2, t3, t4⟩
        have s1 := ins s (strOfNums [u]) x' b1 b2
        rw [z1] at s1
        have sz1 := z2 s 0 x'.toNat
        have sz2 := z2 s x'.toNat s.size
        refine Ev.step (fun k => by rw [spec_l92Word.l0]) ?_
        refine Ev.pos (by omega) ?_
        refine Ev.bind x1 ?_
        refine Ev.bindc hA ?_
        refine Ev.bind y1 ?_
        refine Ev.bindc hB ?_
        refine Ev.neg (by simp) ?_
        rw [wrap64_id (x := (s.size : Int) + 1) (by omega) (by omega)]
        refine Ev.bind E1 ?_
        dsimp only
        refine Ev.pos b1 ?_
        refine Ev.pos b2 ?_
        refine Ev.pos (show _ + _ ≤ 9223372036854775807 by rw [z1]; omega) ?_
        refine Ev.pos (show _ + _ ≤ 9223372036854775807 by rw [ByteArray.size_append, z1]; omega) ?_
        generalize hs2 : (s.extract 0 x'.toNat ++ strOfNums [u]) ++ s.extract x'.toNat s.size = s2 at *
        rw [wrap64_id (x := (s2.size : Int) + 1) (by omega) (by omega), ww]
        have sz3 := z2 s2 0 y'.toNat
        have sz4 := z2 s2 y'.toNat s2.size
        refine Ev.bind E2 ?_
        dsimp only
        refine Ev.pos b3 ?_
        refine Ev.pos b4 ?_
        refine Ev.pos (show _ + _ ≤ 9223372036854775807 by rw [z1]; omega) ?_
        refine Ev.pos (show _ + _ ≤ 9223372036854775807 by rw [ByteArray.size_append, z1]; omega) ?_
        exact E3
  obtain ⟨t, q', h1, h2, h3, h4⟩ := key (n + 1 - 0).toNat 0 rfl (Int.le_refl _) (by omega) (⟨#[]⟩ : ByteArray) (p + 1 + 1) (b == 0) (by decide) (by omega) (by omega)
  refine ⟨t, q', ?_, h2, h3, h4⟩
  unfold spec_l92Word.f
  refine Ev.bind n1 ?_
  refine Ev.bind b1 ?_
  rw [wrap64_id (by omega) (by omega), show 1 + (n, p + 1).1 = n + 1 from Int.add_comm _ _]
  exact h1
/-! ### spec_l6Open -/
theorem spec_l6Open_ex (l : List Int) (h : Bytes l) : ∃ m, spec_l6Open.f l = some (m, 0) ∧ Bytes m ∧ m.length ≤ 2000 := by
  unfold spec_l6Open.f
  by_cases h1 : (l.length : Int) > 2000
  · rw [if_pos h1, if_pos (by omega)]
    exact ⟨_, rfl, h.take 2000, by simp; omega⟩
  · rw [if_neg h1]
    exact ⟨_, rfl, h, by omega⟩
/-! ### spec_DrawWordCut -/
theorem spec_DrawWordCut_ex (l : List Int) (hb : Bytes l) : ∃ s i k, Ev (fun n => spec_DrawWordCut.f n l) (s, i, k) ∧ s.size ≤ 200 := by
  obtain ⟨m, h1, h2, h3⟩ := spec_l6Open_ex l hb
  obtain ⟨s, p, s1, s2, s3, s4⟩ := spec_l92Word_ex m h2 h3 0 5 (by omega) (by omega) (by omega) (by omega)
  obtain ⟨x, x1, x2, x3⟩ := spec_l6Rd_pick_ex m h2 h3 p (wrap64 ((s.size : Int) + 1)) (by omega) (by omega)
  obtain ⟨y, y1, y2, y3⟩ := spec_l6Rd_pick_ex m h2 h3 (p + 1) 20 (by omega) (by omega)
  obtain ⟨z, z1, z2, z3⟩ := spec_l6Rd_pick_ex m h2 h3 (p + 1 + 1) (mx 1 (wrap64 (x + (wrap64 (Int.tdiv y 19))))) (by omega) (by omega)
  obtain ⟨v, v1, v2, v3⟩ := spec_l6Rd_pick_ex m h2 h3 (p + 1 + 1 + 1) 20 (by omega) (by omega)
  refine ⟨s, wrap64 (x + (wrap64 (Int.tdiv y 19))), wrap64 (z - (wrap64 (Int.tdiv v 19))), ?_, s2⟩
  unfold spec_DrawWordCut.f
  refine Ev.bindc h1 ?_
  refine Ev.bind s1 ?_
  refine Ev.bind x1 ?_
  refine Ev.bind y1 ?_
  refine Ev.bind z1 ?_
  refine Ev.bind v1 ?_
  exact Ev.const rfl
/-! ### impl_reversed -/
theorem impl_reversed_ev (t : ByteArray) (ht : t.size ≤ 1048576) (ha : AllLet t) : Ev (fun k => impl_reversed.f k t) (backS t) := by
  have key : ∀ r, r ≤ t.size → Ev (fun k => impl_reversed.l0 k t (backN t (t.size - r)) ((r : Int) - 1)) (backS t) := by
    intro r
    induction r with
    | zero =>
      intro _
      refine Ev.step (fun k => by rw [impl_reversed.l0]) ?_
      refine Ev.neg (by omega) ?_
      exact Ev.const rfl
    | succ r ih =>
      intro hr
      refine Ev.step (fun k => by rw [impl_reversed.l0]) (Ev.pos (by omega) (Ev.pos (by omega) (Ev.pos (by omega) (Ev.pos (by simp [backN]; omega) ?_))))
      rw [show ((r + 1 : Nat) : Int) - 1 = (r : Int) by omega]
      rw [wrap64_id (by omega) (by omega), fl_eq _ (bt_rng _ _).1 (bt_rng _ _).2 (ha r (by omega))]
      have := ih (by omega)
      rw [show t.size - r = (t.size - (r + 1)) + 1 by omega, backN_succ, show t.size - 1 - (t.size - (r + 1)) = r by omega] at this
      exact this
  have := key t.size (Nat.le_refl _)
  unfold impl_reversed.f
  rw [wrap64_id (by omega) (by omega)]
  rw [Nat.sub_self] at this
  exact this
/-! ### impl_WordCut -/
theorem impl_WordCut_ev (s : ByteArray) (i k : Int) : Ev (fun n => impl_WordCut.f n s i k) (cutV s i k) := by
  have hno : ¬ CutOK s i k → Ev (fun n => impl_WordCut.j0 n s i k true) (cutV s i k) := fun h => by
    unfold cutV; rw [if_neg h]
    exact Ev.step (fun n => by rw [impl_WordCut.j0]) (Ev.pos rfl (Ev.const rfl))
  unfold impl_WordCut.f
  refine Ev.bindc (impl_WordValid_eq s) ?_
  refine Ev.ite (fun hw => ?_) (fun h => hno (fun w => h (decide_eq_true w.1)))
  replace hw := of_decide_eq_true hw
  have hz := hw.size
  refine Ev.ite (fun h => hno (fun w => by have := w.2.1; omega)) (fun h1 => ?_)
  refine Ev.ite (fun h => hno (fun w => by have := w.2.2.1; omega)) (fun h2 => ?_)
  refine Ev.ite (fun h => hno (fun w => by have := w.2.2.2.1; omega)) (fun h3 => ?_)
  by_cases h4 : k ≥ i
  · rw [decide_eq_true h4]; exact hno (fun w => by have := w.2.2.2.2.1; omega)
  rw [decide_eq_false h4]
  obtain ⟨i, rfl⟩ := Int.eq_ofNat_of_zero_le (show 0 ≤ i by omega)
  obtain ⟨k, rfl⟩ := Int.eq_ofNat_of_zero_le (show 0 ≤ k by omega)
  obtain ⟨p1, p2, p3, p4⟩ := par_spec hw (i := k) (by omega)
  refine Ev.step (fun n => by rw [impl_WordCut.j0]) (Ev.neg (by simp) ?_)
  refine Ev.bind (impl_partnersOf_ev s hw) ?_
  rw [rd_pars s k (by omega)]
  refine Ev.pos (by omega) (Ev.pos (by rw [pars_length]; omega) ?_)
  refine Ev.ite (fun h => ?_) (fun h5 => ?_)
  · unfold cutV
    rw [if_neg (fun w : CutOK s i k => by have := w.2.2.2.2.2; simp only [toNat_nat] at this; omega)]
    exact Ev.const rfl
  have hok : CutOK s i k := ⟨hw, by omega, by omega, by omega, by omega, by simp only [toNat_nat]; omega⟩
  have h0 := (hw.2 k (by omega)).1
  have hr := slet_range (bt s (k : Int))
  have hl : slet (bt s (k : Int)) = wl s k := rfl
  obtain ⟨es, el⟩ := small_eq (bt s (k : Int)) (bt_rng _ _).1 (bt_rng _ _).2 h0
  rw [hl] at hr es el
  have hra := rest_all hw i k (by omega)
  have hv : cutV s i k = (cutS s i k, true) := by unfold cutV; rw [if_pos hok]; rfl
  rw [hv, es, el, wrap64_id (x := (k : Int) + 1) (by omega) (by omega), wrap64_id (x := (par s k : Int) + 1) (by omega) (by omega)]
  have e1 : ((k : Int) + 1).toNat = k + 1 := by omega
  have e2 : ((par s k : Int) + 1).toNat = par s k + 1 := by omega
  simp only [e1, e2, toNat_nat]
  have z1 : ∀ x : Int, (strOfNums [x]).size = 1 := fun x => strOfNums_size _
  have z2 : ∀ a b, (s.extract a b).size ≤ 10 := fun a b => by rw [ByteArray.size_extract]; omega
  have zr : ((s.extract (par s k + 1) s.size ++ strOfNums [65 + wl s k]) ++ s.extract i (par s k)).size ≤ 21 := by
    have := z2 (par s k + 1) s.size; have := z2 i (par s k); rw [ByteArray.size_append, ByteArray.size_append, z1]; omega
  have zf : ((s.extract (k + 1) i ++ strOfNums [97 + wl s k]) ++ s.extract 0 k).size ≤ 21 := by
    have := z2 (k + 1) i; have := z2 0 k; rw [ByteArray.size_append, ByteArray.size_append, z1]; omega
  refine Ev.pos (by omega) (Ev.pos (by omega) (Ev.pos (by omega) ?_))
  refine Ev.bindc rfl ?_
  refine Ev.pos (by have := z2 (par s k + 1) s.size; rw [z1]; omega) ?_
  refine Ev.pos (by omega) (Ev.pos (by omega) (Ev.pos (by omega) ?_))
  refine Ev.pos (by have := z2 (par s k + 1) s.size; have := z2 i (par s k); rw [ByteArray.size_append, z1]; omega) ?_
  refine Ev.pos (by omega) (Ev.pos (by omega) ?_)
  refine Ev.ite (fun e => ?_) (fun e => ?_)
  · have e' : wsm s k = wsm s (par s k) := (bt_same hw (by omega)).1 e
    refine Ev.bind (impl_reversed_ev _ (by omega) hra) ?_
    refine Ev.pos (by omega) (Ev.pos (by omega) (Ev.pos (by omega) ?_))
    refine Ev.bindc rfl ?_
    refine Ev.pos (by have := z2 (k + 1) i; rw [z1]; omega) (Ev.pos (by omega) ?_)
    refine Ev.pos (by have := z2 (k + 1) i; have := z2 0 k; rw [ByteArray.size_append, z1]; omega) ?_
    refine Ev.pos ?_ (Ev.const ?_)
    · have : (backS ((s.extract (par s k + 1) s.size ++ strOfNums [65 + wl s k]) ++ s.extract i (par s k))).size ≤ 21 := by
        unfold backS; rw [strOfNums_size]; simp [backN]; simpa using zr
      omega
    · unfold cutS; rw [if_pos e']
  · have e' : ¬ wsm s k = wsm s (par s k) := fun h => e ((bt_same hw (by omega)).2 h)
    refine Ev.pos (by omega) (Ev.pos (by omega) (Ev.pos (by omega) ?_))
    refine Ev.bindc rfl ?_
    refine Ev.pos (by have := z2 (k + 1) i; rw [z1]; omega) (Ev.pos (by omega) ?_)
    refine Ev.pos (by have := z2 (k + 1) i; have := z2 0 k; rw [ByteArray.size_append, z1]; omega) ?_
    refine Ev.pos (by omega) (Ev.const ?_)
    unfold cutS; rw [if_neg e']
/-! ### spec_WordValid -/
theorem spec_WordValid_l1_ev (s : ByteArray) (hs : s.size ≤ 1048576) (i : Nat) (hi : i < s.size) (r : Bool) (hr : Ev (fun k => spec_WordValid.l1 k s i (wcnt s (wl s i) s.size : Nat) (s.size : Nat)) r) :
    ∀ d j, s.size - j = d → j ≤ s.size → Ev (fun k => spec_WordValid.l1 k s i (wcnt s (wl s i) j : Nat) (j : Nat)) r := by
  intro d
  induction d with
  | zero => intro j hd hj; obtain rfl : j = s.size := by omega
            exact hr
  | succ d ih =>
    intro j hd hj
    have hb := wcnt_le s (wl s i) j
    refine Ev.step (fun k => by rw [spec_WordValid.l1]) ?_
    refine Ev.pos (by omega) (Ev.pos (by omega) ?_)
    refine Ev.bind (spec_l8Letter_ev _ (bt_rng _ _).1 (bt_rng _ _).2) (Ev.pos (by omega) (Ev.pos (by omega) ?_))
    refine Ev.bind (spec_l8Letter_ev _ (bt_rng _ _).1 (bt_rng _ _).2) ?_
    have := ih (j + 1) (by omega) (by omega)
    rw [wrap64_id (x := (j : Int) + 1) (by omega) (by omega)]
    refine Ev.ite (fun h => ?_) (fun h => ?_)
    · rw [wrap64_id (by omega) (by omega)]
      have e : wcnt s (wl s i) (j + 1) = wcnt s (wl s i) j + 1 := by simp only [wcnt]; exact congrArg (wcnt s (wl s i) j + ·) (if_pos h)
      rw [e] at this; exact this
    · have e : wcnt s (wl s i) (j + 1) = wcnt s (wl s i) j := by simp only [wcnt]; exact congrArg (wcnt s (wl s i) j + ·) (if_neg h)
      rw [e] at this; exact this
theorem spec_WordValid_ev (s : ByteArray) (hs : s.size ≤ 1048576) : Ev (fun k => spec_WordValid.f k s) (decide (WOK s)) := by
  have key : ∀ d i, s.size - i = d → i ≤ s.size → (∀ q, q < i → 0 ≤ wl s q ∧ wcnt s (wl s q) s.size = 2) → Ev (fun k => spec_WordValid.l0 k s (i : Nat)) (decide (WOK s)) := by
    intro d
    induction d with
    | zero =>
      intro i hd hi hq
      obtain rfl : i = s.size := by omega
      refine Ev.step (fun k => by rw [spec_WordValid.l0]) (Ev.neg (by omega) (Ev.const ?_))
      congr 1
      rw [decide_eq_decide]
      exact ⟨fun h => ⟨by omega, hq⟩, fun h => by have := h.1; omega⟩
    | succ d ih =>
      intro i hd hi hq
      refine Ev.step (fun k => by rw [spec_WordValid.l0]) (Ev.pos (by omega) ?_)
      refine spec_WordValid_l1_ev s hs i (by omega) _ ?_ s.size 0 (by omega) (by omega)
      refine Ev.step (fun k => by rw [spec_WordValid.l1]) (Ev.neg (by omega) (Ev.pos (by omega) (Ev.pos (by omega) ?_)))
      refine Ev.bind (spec_l8Letter_ev _ (bt_rng _ _).1 (bt_rng _ _).2) ?_
      have hn : ∀ h : ¬ (0 ≤ wl s i ∧ wcnt s (wl s i) s.size = 2), some false = some (decide (WOK s)) := fun h => by
        rw [decide_eq_false (fun w => h (w.2 i (by omega)))]
      refine Ev.ite (fun h => Ev.const (hn (fun a => by have := a.1; simp only [wl] at this; omega))) (fun h => ?_)
      refine Ev.ite (fun h2 => ?_) (fun h2 => Ev.const (hn (fun a => h2 (by have := a.2; omega))))
      rw [wrap64_id (by omega) (by omega)]
      exact ih (i + 1) (by omega) (by omega) (fun q hqi => by
        by_cases e : q = i
        · subst e; exact ⟨by simp only [wl]; omega, by omega⟩
        · exact hq q (by omega))
  unfold spec_WordValid.f
  exact key s.size 0 (by omega) (by omega) (fun q hq => by omega)
/-! ### spec_l8Back -/
theorem spec_l8Back_ev (t : ByteArray) (ht : t.size ≤ 1048576) (ha : AllLet t) : Ev (fun k => spec_l8Back.f k t) (backS t) := by
  have key : ∀ r, r ≤ t.size → Ev (fun k => spec_l8Back.l0 k t (strOfNums (backN t (t.size - r))) ((r : Int) - 1)) (backS t) := by
    intro r
    induction r with
    | zero =>
      intro _
      refine Ev.step (fun k => by rw [spec_l8Back.l0]) ?_
      refine Ev.neg (by omega) ?_
      exact Ev.const rfl
    | succ r ih =>
      intro hr
      refine Ev.step (fun k => by rw [spec_l8Back.l0]) (Ev.pos (by omega) (Ev.pos (by omega) (Ev.pos (by omega) ?_)))
      rw [show ((r + 1 : Nat) : Int) - 1 = (r : Int) by omega]
      refine Ev.bind (spec_l8Other_ev _ (bt_rng _ _).1 (bt_rng _ _).2 (ha r (by omega))) ?_
      refine Ev.pos (by rw [strOfNums_size, strOfNums_size]; simp [backN]; omega) ?_
      rw [wrap64_id (by omega) (by omega)]
      have := ih (by omega)
      rw [show t.size - r = (t.size - (r + 1)) + 1 by omega, backN_succ, strOfNums_append, show t.size - 1 - (t.size - (r + 1)) = r by omega] at this
      exact this
  have := key t.size (Nat.le_refl _)
  unfold spec_l8Back.f
  rw [wrap64_id (by omega) (by omega)]
  rw [Nat.sub_self] at this
  exact this
/-! ### spec_l6In -/
theorem spec_l6In_eq (a b c : Int) : spec_l6In.f a b c = some (decide (b ≤ a ∧ a ≤ c)) := by
  unfold spec_l6In.f
  by_cases h : a ≥ b
  · rw [if_pos h]
    congr 1
    rw [decide_eq_decide]
    omega
  · rw [if_neg h, decide_eq_false (by omega)]
/-! ### spec_l8Partner -/
theorem spec_l8Partner_ev (s : ByteArray) (hs : s.size ≤ 1048576) (h : WOK s) (i : Nat) (hi : i < s.size) : Ev (fun k => spec_l8Partner.f k s (i : Nat)) (par s i : Nat) := by
  obtain ⟨p1, p2, p3, p4⟩ := par_spec h hi
  have key : ∀ d j, par s i - j = d → j ≤ par s i → Ev (fun k => spec_l8Partner.l0 k s (i : Nat) (j : Nat)) (par s i : Nat) := by
    intro d
    induction d with
    | zero =>
      intro j hd hj
      obtain rfl : j = par s i := by omega
      refine Ev.step (fun k => by rw [spec_l8Partner.l0]) (Ev.pos (by omega) (Ev.neg (by omega) (Ev.pos (by omega) ?_)))
      refine Ev.bind (spec_l8Letter_ev _ (bt_rng _ _).1 (bt_rng _ _).2) (Ev.pos (by omega) (Ev.pos (by omega) ?_))
      refine Ev.bind (spec_l8Letter_ev _ (bt_rng _ _).1 (bt_rng _ _).2) (Ev.pos p3 (Ev.const rfl))
    | succ d ih =>
      intro j hd hj
      have := ih (j + 1) (by omega) (by omega)
      refine Ev.step (fun k => by rw [spec_l8Partner.l0]) (Ev.pos (by omega) ?_)
      rw [wrap64_id (x := (j : Int) + 1) (by omega) (by omega)]
      refine Ev.ite (fun _ => this) (fun hne => Ev.pos (by omega) ?_)
      refine Ev.bind (spec_l8Letter_ev _ (bt_rng _ _).1 (bt_rng _ _).2) (Ev.pos (by omega) (Ev.pos (by omega) ?_))
      refine Ev.bind (spec_l8Letter_ev _ (bt_rng _ _).1 (bt_rng _ _).2) (Ev.neg (fun e => ?_) this)
      have := p4 j (by omega) (by omega) e
      omega
  unfold spec_l8Partner.f
  exact key (par s i) 0 (by omega) (by omega)
/-! ### spec_WordCut -/
theorem spec_WordCut_ev (s : ByteArray) (hs : s.size ≤ 1048576) (i k : Int) : Ev (fun n => spec_WordCut.f n s i k) (cutV s i k) := by
  have hno : ¬ CutOK s i k → Ev (fun n => spec_WordCut.j0 n s i k true) (cutV s i k) := fun h => by
    unfold cutV; rw [if_neg h]
    exact Ev.step (fun n => by rw [spec_WordCut.j0]) (Ev.pos rfl (Ev.const rfl))
  unfold spec_WordCut.f
  refine Ev.bind (spec_WordValid_ev s hs) ?_
  refine Ev.ite (fun hw => ?_) (fun h => hno (fun w => h (decide_eq_true w.1)))
  replace hw := of_decide_eq_true hw
  have hz := hw.size
  rw [wrap64_id (x := (s.size : Int) - 1) (by omega) (by omega)]
  refine Ev.bindc (spec_l6In_eq _ _ _) ?_
  refine Ev.ite (fun h1 => ?_) (fun h => hno (fun w => h (decide_eq_true ⟨w.2.1, by have := w.2.2.1; omega⟩)))
  replace h1 := of_decide_eq_true h1
  rw [wrap64_id (x := i - 1) (by omega) (by omega)]
  refine Ev.bindc (spec_l6In_eq _ _ _) ?_
  refine Ev.ite (fun h2 => ?_) (fun h => hno (fun w => h (decide_eq_true ⟨w.2.2.2.1, by have := w.2.2.2.2.1; omega⟩)))
  replace h2 := of_decide_eq_true h2
  obtain ⟨i, rfl⟩ := Int.eq_ofNat_of_zero_le (show 0 ≤ i by omega)
  obtain ⟨k, rfl⟩ := Int.eq_ofNat_of_zero_le h2.1
  refine Ev.bind (spec_l8Partner_ev s hs hw k (by omega)) ?_
  obtain ⟨p1, p2, p3, p4⟩ := par_spec hw (i := k) (by omega)
  by_cases h3 : (par s k : Int) < i
  · rw [decide_eq_true h3]
    exact hno (fun w => by have := w.2.2.2.2.2; simp only [toNat_nat] at this; omega)
  · rw [decide_eq_false h3]
    have hok : CutOK s i k := ⟨hw, by omega, by omega, by omega, by omega, by simp only [toNat_nat]; omega⟩
    have hl : slet (bt s (k : Int)) = wl s k := rfl
    have h0 := (hw.2 k (by omega)).1
    have hr := slet_range (bt s (k : Int))
    rw [hl] at hr
    have hra := rest_all hw i k (by omega)
    have hv : cutV s i k = (cutS s i k, true) := by unfold cutV; rw [if_pos hok]; rfl
    rw [hv]
    refine Ev.step (fun n => by rw [spec_WordCut.j0]) (Ev.neg (by simp) ?_)
    refine Ev.bind (spec_l8Partner_ev s hs hw k (by omega)) ?_
    refine Ev.pos (by omega) (Ev.pos (by omega) ?_)
    refine Ev.bind (spec_l8Letter_ev _ (bt_rng _ _).1 (bt_rng _ _).2) ?_
    rw [hl, wrap64_id (x := (k : Int) + 1) (by omega) (by omega), wrap64_id (x := (par s k : Int) + 1) (by omega) (by omega)]
    have e1 : ((k : Int) + 1).toNat = k + 1 := by omega
    have e2 : ((par s k : Int) + 1).toNat = par s k + 1 := by omega
    simp only [e1, e2, toNat_nat]
    refine Ev.pos (by omega) (Ev.pos (by omega) (Ev.pos (by omega) (Ev.pos (by omega) ?_)))
    refine Ev.bindc (spec_l8Name_eq _ _ h0 (by omega)) ?_
    simp only [if_true]
    have z1 : ∀ x : Int, (strOfNums [x]).size = 1 := fun x => strOfNums_size _
    have z2 : ∀ a b, (s.extract a b).size ≤ 10 := fun a b => by rw [ByteArray.size_extract]; omega
    refine Ev.pos (by have := z2 (k + 1) i; rw [z1]; omega) (Ev.pos (by have := z2 (k + 1) i; have := z2 0 k; rw [ByteArray.size_append, z1]; omega) ?_)
    refine Ev.pos (by omega) (Ev.pos (by omega) ?_)
    refine Ev.bindc (spec_l8Name_eq _ _ h0 (by omega)) ?_
    simp only [Bool.false_eq_true, if_false]
    refine Ev.pos (by have := z2 (par s k + 1) s.size; rw [z1]; omega) ?_
    refine Ev.pos (by omega) (Ev.pos (by omega) (Ev.pos (by omega) ?_))
    refine Ev.pos (by have := z2 (par s k + 1) s.size; have := z2 i (par s k); rw [ByteArray.size_append, z1]; omega) ?_
    refine Ev.bindc (spec_l8Small_eq _) (Ev.pos (by omega) (Ev.pos (by omega) ?_))
    refine Ev.bindc (spec_l8Small_eq _) ?_
    have zr : ((s.extract (par s k + 1) s.size ++ strOfNums [65 + wl s k]) ++ s.extract i (par s k)).size ≤ 21 := by
      have := z2 (par s k + 1) s.size; have := z2 i (par s k); rw [ByteArray.size_append, ByteArray.size_append, z1]; omega
    have zf : ((s.extract (k + 1) i ++ strOfNums [97 + wl s k]) ++ s.extract 0 k).size ≤ 21 := by
      have := z2 (k + 1) i; have := z2 0 k; rw [ByteArray.size_append, ByteArray.size_append, z1]; omega
    refine Ev.ite (fun e => ?_) (fun e => ?_)
    · have e' : wsm s k = wsm s (par s k) := eq_of_beq e
      refine Ev.bind (spec_l8Back_ev _ (by omega) hra) ?_
      refine Ev.pos ?_ (Ev.const ?_)
      · have : (backS ((s.extract (par s k + 1) s.size ++ strOfNums [65 + wl s k]) ++ s.extract i (par s k))).size ≤ 21 := by
          unfold backS; rw [strOfNums_size]; simp [backN]; simpa using zr
        omega
      · unfold cutS; rw [if_pos e']
    · have e' : ¬ wsm s k = wsm s (par s k) := fun h => e (beq_iff_eq.2 h)
      refine Ev.pos (by omega) (Ev.const ?_)
      unfold cutS; rw [if_neg e']
/-! ### impl_WordCorners -/
theorem impl_WordCorners_ev (s : ByteArray) : Ev (fun k => impl_WordCorners.f k s) (if WOK s then (corners s : Int) else -1) := by
  unfold impl_WordCorners.f
  refine Ev.bindc (impl_WordValid_eq s) ?_
  by_cases hw : WOK s
  · rw [if_pos hw]
    exact Ev.pos (decide_eq_true hw) (Ev.bind (impl_cornersOf_ev s hw) (Ev.const rfl))
  · rw [if_neg hw]
    exact Ev.neg (by simp [hw]) (Ev.const rfl)
/-! ### The law -/
theorem FnWordCut : laws_FnWordCut.Pure := by
  intro l hm hl hwf
  refine Ev.rounds ?_
  unfold laws_FnWordCut.f
  refine Ev.ite (fun _ => Ev.const rfl) (fun _ => ?_)
  obtain ⟨s, i, k, h1, h2⟩ := spec_DrawWordCut_ex l (bytes_of_wf hwf)
  refine Ev.bind h1 ?_
  refine Ev.bind (impl_WordCut_ev s i k) ?_
  refine Ev.bind (spec_WordCut_ev s (by omega) i k) ?_
  refine Ev.neg (by simp) ?_
  refine Ev.pos rfl ?_
  refine Ev.step (fun n => by rw [laws_FnWordCut.j0]) ?_
  unfold cutV
  by_cases hc : CutOK s i k
  · rw [if_pos hc]
    obtain ⟨hw, c1, c2, c3, c4, c5⟩ := hc
    have hN := cutN_of hw (i := i.toNat) (k := k.toNat) (by omega) (by omega) (by omega)
    have hz := cutS_size hN
    obtain ⟨cw, cp⟩ := cut_ok hw hN
    have n1 := impl_WordNames_ev (cutS s i.toNat k.toNat)
    rw [if_pos cw] at n1
    have n2 := impl_WordNames_ev s
    rw [if_pos hw] at n2
    have w1 := impl_WordCorners_ev (cutS s i.toNat k.toNat)
    rw [if_pos cw, corners_cut hw hN] at w1
    have w2 := impl_WordCorners_ev s
    rw [if_pos hw] at w2
    refine Ev.neg (by simp) ?_
    refine Ev.bind n1 ?_
    refine Ev.bind n2 ?_
    refine Ev.pos rfl (Ev.pos rfl ?_)
    refine Ev.bindc (impl_WordValid_eq _) ?_
    refine Ev.pos (decide_eq_true cw) ?_
    refine Ev.pos (by rw [hz]) ?_
    refine Ev.bind (impl_WordSame_ev _ _) ?_
    refine Ev.pos (same_of cw hw (cls_cut hw hN)) ?_
    refine Ev.pos ?_ ?_
    · show ((strOfNums (namesL (cutS s i.toNat k.toNat) 0)).size : Int) = ((strOfNums (namesL s 0)).size : Int)
      rw [strOfNums_size, strOfNums_size, namesL_length, namesL_length, hz]
    refine Ev.bind w1 ?_
    refine Ev.bind w2 ?_
    exact Ev.const (by rw [beq_self_eq_true])
  · rw [if_neg hc]
    refine Ev.pos rfl (Ev.pos rfl ?_)
    exact Ev.const (by rw [beq_self_eq_true])

end Go.Proofs.YtpfnchjbbagmdaaDoor.Pure
