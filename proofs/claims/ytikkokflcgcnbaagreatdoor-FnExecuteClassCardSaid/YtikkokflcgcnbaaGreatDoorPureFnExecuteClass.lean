/- The law FnExecuteClass holds for every input. -/
import Derived.Test.YtikkokflcgcnbaaGreatDoorPFnExecuteClassx8
import Derived.Test.YtikkokflcgcnbaaGreatDoorM0
import Derived.Test.YtikkokflcgcnbaaGreatDoorMN
import Derived.Test.YtikkokflcgcnbaaGreatDoorMO
import Derived.Test.YtikkokflcgcnbaaGreatDoorMK
import Derived.Test.YtikkokflcgcnbaaGreatDoorMW
import Derived.Test.YtikkokflcgcnbaaGreatDoorMXS
import Derived.Test.YtikkokflcgcnbaaGreatDoorMR
import Derived.Test.YtikkokflcgcnbaaGreatDoorMC
import Derived.Test.YtikkokflcgcnbaaGreatDoorMY
set_option linter.unusedVariables false
set_option linter.unusedSimpArgs false
namespace Go.Proofs.YtikkokflcgcnbaaGreatDoor.Pure
open Go.RowKit Go.Proofs.YtikkokflcgcnbaaGreatDoor.PFnExecuteClass Go.Proofs.YtikkokflcgcnbaaGreatDoorW.PrintWords Go.Proofs.YtikkokflcgcnbaaGreatDoorW.PrintLast Go.Proofs.YtikkokflcgcnbaaGreatDoor.M

/-! ### strconv_Itoa -/
theorem strconv_Itoa_dig (n : Int) (h0 : 0 ≤ n) (h1 : n < 10) : strconv_Itoa.f n = some (strOfNums [48 + n]) := by
  unfold strconv_Itoa.f
  rw [if_pos h0, if_pos h1]
/-! ### impl_WordValid -/
theorem impl_WordValid_letter (x : Int) (h0 : 0 ≤ x) (h1 : x ≤ 255) : impl_WordValid.letter x = slet x := ilet_eq x h0 h1
theorem impl_WordValid_cnt (s : ByteArray) (c : Int) : ∀ k, k ≤ s.size → impl_WordValid.cnt s k c = (wcnt s c k : Nat) := by
  intro k
  induction k with
  | zero => intro _; rfl
  | succ k ih =>
    intro hk
    rw [impl_WordValid.cnt_succ s k (by omega) c, ih (by omega), impl_WordValid_letter _ (bt_rng _ _).1 (bt_rng _ _).2]
    simp only [wcnt, wl]
    by_cases e : slet (bt s (k : Int)) = c <;> simp [e]
theorem impl_WordValid_eq (s : ByteArray) : impl_WordValid.f s = some (decide (WOK s)) := by
  unfold impl_WordValid.f
  congr 1
  have hall : (impl_WordValid.letters s).all (fun n => decide (0 ≤ n)) = true ↔ ∀ i, i < s.size → 0 ≤ wl s i := by
    rw [List.all_eq_true]
    simp only [impl_WordValid.letters, List.mem_map, List.mem_range, decide_eq_true_eq]
    constructor
    · intro h i hi
      have := h _ ⟨i, hi, rfl⟩
      rwa [impl_WordValid_letter _ (bt_rng _ _).1 (bt_rng _ _).2] at this
    · rintro h x ⟨i, hi, rfl⟩
      rw [impl_WordValid_letter _ (bt_rng _ _).1 (bt_rng _ _).2]
      exact h i hi
  have hfine : ∀ c, impl_WordValid.fine s c = true ↔ (wcnt s c s.size = 0 ∨ wcnt s c s.size = 2) := by
    intro c
    unfold impl_WordValid.fine
    rw [impl_WordValid_cnt s c s.size (Nat.le_refl _), Bool.or_eq_true, beq_iff_eq, beq_iff_eq]
    omega
  rw [Bool.eq_iff_iff, decide_eq_true_eq]
  unfold impl_WordValid.val
  simp only [Bool.and_eq_true, decide_eq_true_eq]
  rw [hall, hfine, hfine, hfine, hfine, hfine]
  constructor
  · rintro ⟨h1, h2, h3, ⟨⟨⟨h4, h5⟩, h6⟩, h7⟩, h8⟩
    refine ⟨by omega, fun i hi => ⟨h3 i hi, ?_⟩⟩
    have hr := slet_range (bt s (i : Int))
    have h0 := h3 i hi
    have hn : wcnt s (wl s i) s.size ≠ 0 := fun e => wcnt_zero e i hi rfl
    have hc : wl s i = 0 ∨ wl s i = 1 ∨ wl s i = 2 ∨ wl s i = 3 ∨ wl s i = 4 := by unfold wl at *; omega
    rcases hc with e | e | e | e | e <;> rw [e] at hn ⊢ <;> omega
  · intro h
    have hc : ∀ c, wcnt s c s.size = 0 ∨ wcnt s c s.size = 2 := by
      intro c
      by_cases hz : wcnt s c s.size = 0
      · exact .inl hz
      · right
        obtain ⟨i, hi, hl⟩ : ∃ i, i < s.size ∧ wl s i = c := by
          refine Classical.byContradiction fun hno => hz ?_
          have : ∀ k, k ≤ s.size → wcnt s c k = 0 := by
            intro k
            induction k with
            | zero => intro _; rfl
            | succ k ih => intro hk; simp only [wcnt]; rw [ih (by omega), if_neg (fun e => hno ⟨k, by omega, e⟩)]
          exact this s.size (Nat.le_refl _)
        rw [← hl]; exact (h.2 i hi).2
    have hsum := wcnt_sum s s.size (fun i hi => (h.2 i hi).1)
    have c0 := hc 0
    have c1 := hc 1
    have c2 := hc 2
    have c3 := hc 3
    have c4 := hc 4
    have := h.1
    exact ⟨by omega, by omega, fun i hi => (h.2 i hi).1, ⟨⟨⟨c0, c1⟩, c2⟩, c3⟩, c4⟩
/-! ### impl_still -/
theorem impl_still_ev (n : Nat) (hn : n ≤ 4194304) : Ev (fun k => impl_still.f k (n : Nat)) (idL n) := by
  have key : ∀ d i, n - i = d → i ≤ n → ∀ x3 : List Int, x3.length = n → (∀ q : Nat, q < i → rd x3 (q : Int) = (q : Int)) → Ev (fun k => impl_still.l0 k x3 (n : Nat) (i : Nat)) (idL n) := by
    intro d
    induction d with
    | zero =>
      intro i hd hi x3 h3 hq
      obtain rfl : i = n := by omega
      refine Ev.step (fun k => by rw [impl_still.l0]) ?_
      refine Ev.neg (by omega) (Ev.const ?_)
      congr 1
      exact list_ext_rd (by rw [h3, idL_length]) (fun q hq' => by rw [hq q (by omega), rd_idL i q (by omega)])
    | succ d ih =>
      intro i hd hi x3 h3 hq
      refine Ev.step (fun k => by rw [impl_still.l0]) (Ev.pos (by omega) (Ev.pos (by omega) (Ev.pos (by omega) ?_)))
      rw [wrap64_id (by omega) (by omega)]
      refine ih (i + 1) (by omega) (by omega) (x3.set i (i : Int)) (by simp [h3]) (fun q hqi => ?_)
      by_cases e : i = q
      · subst e; exact rd_set_self _ _ _ (by omega)
      · rw [rd_set_ne _ _ _ _ e]; exact hq q (by omega)
  unfold impl_still.f
  refine Ev.pos (by omega) (Ev.pos (by omega) (Ev.bindc rfl ?_))
  have := key n 0 (by omega) (by omega) (List.replicate n 0) (by simp) (fun q hq => by omega)
  rw [List.length_replicate]
  exact this
/-! ### impl_orbits -/
def orbSum (o : List Int) : Nat := o.foldr (fun x s => x.toNat + s) 0
theorem orbSum_set (o : List Int) : ∀ (i : Nat) (x : Int), i < o.length → 0 ≤ x → x < rd o (i : Int) → orbSum (o.set i x) < orbSum o := by
  induction o with
  | nil => intro i x h; simp at h
  | cons y l ih =>
    intro i x h h0 hx
    cases i with
    | zero =>
      have : rd (y :: l) ((0 : Nat) : Int) = y := rfl
      rw [this] at hx
      simp only [List.set_cons_zero, orbSum, List.foldr_cons]
      omega
    | succ i =>
      have : rd (y :: l) ((i + 1 : Nat) : Int) = rd l (i : Int) := by
        simp only [rd, List.getD_eq_getElem?_getD, Int.toNat_natCast, List.getElem?_cons_succ]
      rw [this] at hx
      have := ih i x (by simpa using h) h0 hx
      simp only [List.set_cons_succ, orbSum, List.foldr_cons] at *
      omega
theorem orbSum_set_le (o : List Int) (i : Nat) (x : Int) (h : i < o.length) (h0 : 0 ≤ x) (hx : x ≤ rd o (i : Int)) : orbSum (o.set i x) ≤ orbSum o := by
  by_cases e : x = rd o (i : Int)
  · have : o.set i x = o := by
      refine list_ext_rd (by simp) (fun q hq => ?_)
      by_cases eq : i = q
      · subst eq; rw [rd_set_self _ _ _ h, e]
      · rw [rd_set_ne _ _ _ _ eq]
    rw [this]; exact Nat.le_refl _
  · exact Nat.le_of_lt (orbSum_set o i x h h0 (by omega))
theorem impl_orbits_l2_ev {n : Nat} (hn : n ≤ 4194304) {a b : List Int} (ha : Pts n a) (hb : Pts n b) (p : List Int) (hp : Pts n p)
    (hpc : ∀ i, i < n → Con n a b i (fn p i)) (L : List (List Int)) (o0 : List Int) (x17 x18 : Int) (r : List Int) (pre : Prop)
    (hr : ∀ o g, OrbPre n a b o → (g = true → orbSum o < orbSum o0) → (g = false → o = o0 ∧ pre ∧ ∀ i, i < n → rd o (fn p i : Int) = rd o (i : Int)) → Ev (fun k => impl_orbits.l1 k L o g L x17 (wrap64 (x18 + 1))) r) :
    ∀ d i, n - i = d → i ≤ n → ∀ o g, OrbPre n a b o → (g = true → orbSum o < orbSum o0) → (g = false → o = o0 ∧ pre ∧ ∀ q, q < i → rd o (fn p q : Int) = rd o (q : Int)) →
      Ev (fun k => impl_orbits.l2 k L o g L x17 x18 p (n : Nat) (i : Nat)) r := by
  intro d
  induction d with
  | zero =>
    intro i hd hi o g h hg hf
    obtain rfl : i = n := by omega
    refine Ev.step (fun k => by rw [impl_orbits.l2]) ?_
    refine Ev.neg (by omega) ?_
    exact hr o g h hg hf
  | succ d ih =>
    intro i hd hi o g h hg hf
    have hi' : i < n := by omega
    have ep := hp.fn hi'
    have lp := hp.1
    have lo := h.1
    have gi := h.2 i hi'
    have gp := h.2 _ ep.2
    refine Ev.step (fun k => by rw [impl_orbits.l2]) ?_
    rw [ep.1, wrap64_id (x := (i : Int) + 1) (by omega) (by omega)]
    simp only [toNat_nat]
    refine Ev.pos (by omega) (Ev.pos (by omega) (Ev.pos (by omega) (Ev.pos (by omega) (Ev.pos (by omega) (Ev.pos (by omega) ?_)))))
    -- what a change does
    have hch : ¬ (rd o (i : Int) = rd o (fn p i : Int)) → Ev (fun k => impl_orbits.l2 k L ((o.set i (mn (rd o (i : Int)) (rd o (fn p i : Int)))).set (fn p i) (mn (rd o (i : Int)) (rd o (fn p i : Int)))) true L x17 x18 p (n : Nat) ((i : Int) + 1)) r := by
      intro hne
      have hx : mn (rd o (i : Int)) (rd o (fn p i : Int)) ≤ rd o (i : Int) ∧ mn (rd o (i : Int)) (rd o (fn p i : Int)) ≤ rd o (fn p i : Int) ∧ (mn (rd o (i : Int)) (rd o (fn p i : Int)) < rd o (i : Int) ∨ mn (rd o (i : Int)) (rd o (fn p i : Int)) < rd o (fn p i : Int)) ∧ 0 ≤ mn (rd o (i : Int)) (rd o (fn p i : Int)) ∧
          (mn (rd o (i : Int)) (rd o (fn p i : Int)) = rd o (i : Int) ∨ mn (rd o (i : Int)) (rd o (fn p i : Int)) = rd o (fn p i : Int)) := by unfold mn; omega
      generalize mn (rd o (i : Int)) (rd o (fn p i : Int)) = x at *
      obtain ⟨x1, x2, x3, x4, x5⟩ := hx
      have hcx : Con n a b i x.toNat := by
        rcases x5 with e | e
        · rw [e]; exact gi.2.2
        · rw [e]; exact (hpc i hi').trans gp.2.2
      have p1 := h.put hi' x x4 (by omega) hcx
      have p2 := p1.put ep.2 x x4 (by omega) ((hpc i hi').symm.trans hcx)
      have hs : orbSum ((o.set i x).set (fn p i) x) < orbSum o := by
        have l1 := orbSum_set_le o i x (by omega) x4 x1
        by_cases e : i = fn p i
        · rw [← e] at hne; exact absurd rfl hne
        · have e2 : rd (o.set i x) (fn p i : Int) = rd o (fn p i : Int) := rd_set_ne _ _ _ _ e
          have l2 := orbSum_set_le (o.set i x) (fn p i) x (by simp; omega) x4 (by omega)
          rcases x3 with q | q
          · have := orbSum_set o i x (by omega) x4 q; omega
          · have := orbSum_set (o.set i x) (fn p i) x (by simp; omega) x4 (by omega); omega
      have hs0 : orbSum o ≤ orbSum o0 := by
        cases g with
        | true => exact Nat.le_of_lt (hg rfl)
        | false => rw [(hf rfl).1]; exact Nat.le_refl _
      exact ih (i + 1) (by omega) (by omega) _ true p2 (fun _ => by omega) (fun q => by cases q)
    refine Ev.ite (fun e1 => Ev.ite (fun e2 => ?_) (fun e2 => hch (fun e => e2 ?_))) (fun e1 => hch (fun e => e1 ?_))
    · refine ih (i + 1) (by omega) (by omega) o g h hg (fun hgf => ?_)
      obtain ⟨f1, f2, f3⟩ := hf hgf
      refine ⟨f1, f2, fun q hq => ?_⟩
      by_cases e : q = i
      · subst e; omega
      · exact f3 q (by omega)
    · unfold mn at *; omega
    · unfold mn; omega
theorem impl_orbits_ev (n : Nat) (hn : n ≤ 4194304) (a b : List Int) (ha : Pts n a) (hb : Pts n b) : Ev (fun k => impl_orbits.f k [a, b]) (orbL a b) := by
  have la := ha.1
  have lb := hb.1
  have r0 : rd_L1 [a, b] ((0 : Nat) : Int) = a := rfl
  have r1 : rd_L1 [a, b] ((1 : Nat) : Int) = b := rfl
  have main : ∀ m o, orbSum o ≤ m → OrbPre n a b o → Ev (fun k => impl_orbits.l0 k [a, b] o true) (orbL a b) := by
    intro m
    induction m using Nat.strongRecOn with
    | _ m ih =>
      intro o hm h
      refine Ev.step (fun k => by rw [impl_orbits.l0]) ?_
      refine Ev.pos rfl ?_
      have last : ∀ o' g, OrbPre n a b o' → (g = true → orbSum o' < orbSum o) → (g = false → o' = o ∧ (∀ i, i < n → rd o' (fn a i : Int) = rd o' (i : Int)) ∧ ∀ i, i < n → rd o' (fn b i : Int) = rd o' (i : Int)) →
          Ev (fun k => impl_orbits.l1 k [a, b] o' g [a, b] ((2 : Nat) : Int) ((2 : Nat) : Int)) (orbL a b) := by
        intro o' g h' hg hf
        refine Ev.step (fun k => by rw [impl_orbits.l1]) ?_
        refine Ev.neg (by omega) ?_
        cases g with
        | true => exact ih (orbSum o') (by have := hg rfl; omega) o' (Nat.le_refl _) h'
        | false =>
          obtain ⟨f1, f2, f3⟩ := hf rfl
          refine Ev.step (fun k => by rw [impl_orbits.l0]) ?_
          refine Ev.neg (by simp) (Ev.const ?_)
          congr 1
          exact IsOrb.eq ha hb ⟨h', fun i hi => ⟨f2 i hi, f3 i hi⟩⟩
      have second : ∀ o' g, OrbPre n a b o' → (g = true → orbSum o' < orbSum o) → (g = false → o' = o ∧ True ∧ ∀ i, i < n → rd o' (fn a i : Int) = rd o' (i : Int)) →
          Ev (fun k => impl_orbits.l1 k [a, b] o' g [a, b] ((2 : Nat) : Int) ((1 : Nat) : Int)) (orbL a b) := by
        intro o' g h' hg hf
        refine Ev.step (fun k => by rw [impl_orbits.l1]) ?_
        refine Ev.pos (by omega) (Ev.pos (by omega) (Ev.pos (by simp) ?_))
        rw [r1, lb]
        refine impl_orbits_l2_ev hn ha hb b hb (fun i hi => Con.fb hi) [a, b] o _ _ _ (∀ i, i < n → rd o (fn a i : Int) = rd o (i : Int)) (fun o2 g2 h2 hg2 hf2 => ?_) n 0 (by omega) (by omega) o' g h' hg (fun q => ?_)
        · have e : wrap64 (((1 : Nat) : Int) + 1) = ((2 : Nat) : Int) := by rw [wrap64_id (by omega) (by omega)]; rfl
          rw [e]
          exact last o2 g2 h2 hg2 (fun q => by obtain ⟨z1, z2, z3⟩ := hf2 q; refine ⟨z1, ?_, z3⟩; rw [z1]; exact z2)
        · obtain ⟨z1, _, z3⟩ := hf q
          exact ⟨z1, by rw [z1] at z3; exact z3, fun q hq => by omega⟩
      refine Ev.step (fun k => by rw [impl_orbits.l1]) ?_
      refine Ev.pos (by simp) (Ev.pos (by omega) (Ev.pos (by simp) ?_))
      have r0' : rd_L1 [a, b] 0 = a := rfl
      rw [r0', la]
      refine impl_orbits_l2_ev hn ha hb a ha (fun i hi => Con.fa hi) [a, b] o _ _ _ True (fun o2 g2 h2 hg2 hf2 => ?_) n 0 (by omega) (by omega) o false h (fun q => by cases q) (fun _ => ⟨rfl, trivial, fun q hq => by omega⟩)
      have e1 : wrap64 (0 + 1) = ((1 : Nat) : Int) := by rw [wrap64_id (by omega) (by omega)]; rfl
      rw [e1]
      exact second o2 g2 h2 hg2 hf2
  unfold impl_orbits.f
  have r0' : rd_L1 [a, b] 0 = a := rfl
  refine Ev.pos (by simp) ?_
  rw [r0', la]
  refine Ev.bind (impl_still_ev n hn) ?_
  exact main _ _ (Nat.le_refl _) (OrbPre.start n a b)
/-! ### impl_partnersOf -/
theorem impl_partnersOf_l1_ev (s : ByteArray) (hw : WOK s) (i : Nat) (hi : i < s.size) (x3 : List Int) (hx : x3.length = s.size) (r : List Int) (x10 x11 : Int)
    (hr : Ev (fun k => impl_partnersOf.l1 k s (x3.set i (par s i : Int)) i x10 x11 (s.size : Nat) (s.size : Nat)) r) :
    ∀ d j, s.size - j = d → j ≤ s.size → Ev (fun k => impl_partnersOf.l1 k s (if par s i < j then x3.set i (par s i : Int) else x3) i x10 x11 (s.size : Nat) (j : Nat)) r := by
  obtain ⟨p1, p2, p3, p4⟩ := par_spec hw hi
  have hz := hw.size
  intro d
  induction d with
  | zero =>
    intro j hd hj
    obtain rfl : j = s.size := by omega
    rw [if_pos p1]; exact hr
  | succ d ih =>
    intro j hd hj
    have := ih (j + 1) (by omega) (by omega)
    refine Ev.step (fun k => by rw [impl_partnersOf.l1]) (Ev.pos (by omega) ?_)
    rw [wrap64_id (x := (j : Int) + 1) (by omega) (by omega)]
    refine Ev.ite (fun e => ?_) (fun e => Ev.pos (by omega) (Ev.pos (by omega) (Ev.pos (by omega) (Ev.pos (by omega) ?_))))
    · have e2 : (par s i < j + 1) = (par s i < j) := by apply propext; omega
      simp only [e2] at this; exact this
    · refine Ev.ite (fun e3 => ?_) (fun e3 => ?_)
      · rw [or_eq _ _ (bt_rng _ _).1 (bt_rng _ _).2 (bt_rng _ _).1 (bt_rng _ _).2 (hw.2 i hi).1 (hw.2 j (by omega)).1] at e3
        have e4 := p4 j (by omega) (by omega) e3.symm
        rw [if_pos (by omega)] at this
        rw [if_neg (by omega)]
        refine Ev.pos (by omega) ?_
        rw [← e4] at this
        exact this
      · rw [or_eq _ _ (bt_rng _ _).1 (bt_rng _ _).2 (bt_rng _ _).1 (bt_rng _ _).2 (hw.2 i hi).1 (hw.2 j (by omega)).1] at e3
        have e4 : par s i ≠ j := fun q => e3 (by rw [← q]; exact p3.symm)
        have e2 : (par s i < j + 1) = (par s i < j) := by apply propext; omega
        simp only [e2] at this; exact this
theorem impl_partnersOf_ev (s : ByteArray) (hw : WOK s) : Ev (fun k => impl_partnersOf.f k s) (pars s) := by
  have hz := hw.size
  have key : ∀ d i, s.size - i = d → i ≤ s.size → ∀ x3 : List Int, x3.length = s.size → (∀ q, q < i → x3[q]? = some (par s q : Int)) → Ev (fun k => impl_partnersOf.l0 k s x3 (s.size : Nat) (i : Nat)) (pars s) := by
    intro d
    induction d with
    | zero =>
      intro i hd hi x3 hx hq
      obtain rfl : i = s.size := by omega
      refine Ev.step (fun k => by rw [impl_partnersOf.l0]) (Ev.neg (by omega) (Ev.const ?_))
      congr 1
      apply List.ext_getElem? 
      intro q
      by_cases h : q < s.size
      · rw [hq q h]; simp [pars, h]
      · rw [List.getElem?_eq_none (by omega), List.getElem?_eq_none (by rw [pars_length]; omega)]
    | succ d ih =>
      intro i hd hi x3 hx hq
      refine Ev.step (fun k => by rw [impl_partnersOf.l0]) (Ev.pos (by omega) ?_)
      have := impl_partnersOf_l1_ev s hw i (by omega) x3 hx (pars s) (s.size : Nat) (i : Nat) ?_ s.size 0 (by omega) (by omega)
      · rw [if_neg (by omega)] at this; exact this
      · refine Ev.step (fun k => by rw [impl_partnersOf.l1]) (Ev.neg (by omega) ?_)
        rw [wrap64_id (by omega) (by omega)]
        refine ih (i + 1) (by omega) (by omega) _ (by simp [hx]) (fun q hqi => ?_)
        by_cases e : q = i
        · subst e; rw [List.getElem?_set_self (by omega)]
        · rw [List.getElem?_set_ne (by omega)]; exact hq q (by omega)
  unfold impl_partnersOf.f
  refine Ev.pos (by omega) (Ev.pos (by omega) ?_)
  exact key s.size 0 (by omega) (by omega) _ (by simp) (fun q hq => by omega)
/-! ### impl_cornersOf -/
theorem impl_cornersOf_l1_ev (n : Nat) (hn : n ≤ 4194304) (o : List Int) (ho : o.length = n) : ∀ d i, n - i = d → i ≤ n →
    Ev (fun k => impl_cornersOf.l1 k (fixN o i : Nat) o (n : Nat) (i : Nat)) (fixN o n : Nat) := by
  intro d
  induction d with
  | zero =>
    intro i hd hi
    obtain rfl : i = n := by omega
    refine Ev.step (fun k => by rw [impl_cornersOf.l1]) ?_
    exact Ev.neg (by omega) (Ev.const rfl)
  | succ d ih =>
    intro i hd hi
    have hb2 : fixN o i ≤ i := cntP_le _ i
    have := ih (i + 1) (by omega) (by omega)
    refine Ev.step (fun k => by rw [impl_cornersOf.l1]) (Ev.pos (by omega) (Ev.pos (by omega) (Ev.pos (by omega) ?_)))
    rw [wrap64_id (x := (i : Int) + 1) (by omega) (by omega)]
    refine Ev.ite (fun e => ?_) (fun e => ?_)
    · have e2 : fixN o (i + 1) = fixN o i + 1 := by
        unfold fixN; simp only [cntP]; rw [if_pos (decide_eq_true e)]
      rw [e2] at this
      rw [wrap64_id (by omega) (by omega)]
      exact this
    · have e2 : fixN o (i + 1) = fixN o i := by
        unfold fixN; simp only [cntP]; rw [if_neg (fun h => e (of_decide_eq_true h))]; rfl
      rw [e2] at this
      exact this
theorem impl_cornersOf_ev (s : ByteArray) (hw : WOK s) : Ev (fun k => impl_cornersOf.f k s) (corners s : Nat) := by
  have hz := hw.size
  have key : ∀ d i, s.size - i = d → i ≤ s.size → ∀ x4 x5 : List Int, x4.length = 2 * s.size → x5.length = 2 * s.size →
      (∀ q, q < i → rd x5 ((2 * q : Nat) : Int) = gluF s (2 * q) ∧ rd x5 ((2 * q + 1 : Nat) : Int) = gluF s (2 * q + 1)) →
      (∀ q, q < i → rd x4 ((2 * q + 1 : Nat) : Int) = folF s.size (2 * q + 1) ∧ rd x4 (((2 * q + 2) % (2 * s.size) : Nat) : Int) = folF s.size ((2 * q + 2) % (2 * s.size))) →
      Ev (fun k => impl_cornersOf.l0 k s (s.size : Nat) x4 x5 (pars s) (s.size : Nat) (i : Nat)) (corners s : Nat) := by
    intro d
    induction d with
    | zero =>
      intro i hd hi x4 x5 h4 h5 hA hB
      obtain rfl : i = s.size := by omega
      refine Ev.step (fun k => by rw [impl_cornersOf.l0]) ?_
      refine Ev.neg (by omega) ?_
      obtain rfl : x5 = gluL s := known_two h5 (gluL_length s) (fun j hj => rd_gluL s j hj) hA
      obtain rfl : x4 = folL s := known_all h4 (folL_length s) (fun j hj => rd_folL s j hj) hB
      refine Ev.bind (impl_orbits_ev (2 * s.size) (by omega) _ _ (folL_pts s) (gluL_pts hw)) ?_
      have hl : (orbL (folL s) (gluL s)).length = 2 * s.size := by rw [orbL_length, folL_length]
      rw [hl]
      exact impl_cornersOf_l1_ev (2 * s.size) (by omega) _ hl (2 * s.size) 0 (by omega) (by omega)
    | succ d ih =>
      intro i hd hi x4 x5 h4 h5 hA hB
      have hi' : i < s.size := by omega
      obtain ⟨p1, p2, p3, p4⟩ := par_spec hw hi'
      obtain ⟨m, hm, HMD, f0, f1, W3, W6⟩ := corner_nums s.size i hi' hz.2
      have HG := Aside0.mk (glu_at s i)
      have HW := Aside0.mk (cast_nums i (by omega))
      have HP := Aside0.mk (cast_nums (par s i) (by omega))
      refine Ev.step (fun k => by rw [impl_cornersOf.l0]) ?_
      rw [rd_pars s i hi', HW.out.1, HW.out.2.1, HW.out.2.2.1, W6.out, HP.out.1, HP.out.2.1]
      simp only [toNat_nat]
      have hpl := pars_length s
      refine Ev.pos (by omega) ?_
      refine Ev.pos (by omega) ?_
      refine Ev.pos (by omega) ?_
      refine Ev.neg (by omega) ?_
      refine Ev.pos (by omega) ?_
      refine Ev.pos (by omega) ?_
      refine Ev.pos (by omega) ?_
      refine Ev.pos (by omega) ?_
      refine Ev.bindc rfl ?_
      have go : ∀ a b : Nat, a = gluF s (2 * i) → b = gluF s (2 * i + 1) → Ev (fun k => impl_cornersOf.l0 k s (s.size : Nat) ((x4.set (2 * i + 1) (m : Int)).set m ((2 * i + 1 : Nat) : Int)) ((x5.set (2 * i) (a : Int)).set (2 * i + 1) (b : Int)) (pars s) (s.size : Nat) ((i + 1 : Nat) : Int)) (corners s : Nat) := by
        intro a b ha hb
        refine ih (i + 1) (by omega) (by omega) _ _ (by simp [h4]) (by simp [h5]) (fun q hq => ?_) (fun q hq => ?_)
        · rw [ha, hb]
          by_cases e : q = i
          · subst e
            exact ⟨known_set (by simp; omega) (.inr (known_set (by omega) (.inl rfl))), known_set (by simp; omega) (.inl rfl)⟩
          · obtain ⟨a1, a2⟩ := hA q (by omega)
            exact ⟨known_set (by simp; omega) (.inr (known_set (by omega) (.inr a1))), known_set (by simp; omega) (.inr (known_set (by omega) (.inr a2)))⟩
        · have e1 : ((2 * i + 1 : Nat) : Int) = (folF s.size m : Int) := by rw [f1]
          have e0 : (m : Int) = (folF s.size (2 * i + 1) : Int) := by rw [f0]
          have hset : ∀ q, (q = 2 * i + 1 ∨ q = m ∨ rd x4 (q : Int) = folF s.size q) → rd ((x4.set (2 * i + 1) (m : Int)).set m ((2 * i + 1 : Nat) : Int)) (q : Int) = folF s.size q := by
            intro q hq
            rw [e1, e0]
            refine known_set (by simp; omega) ?_
            rcases hq with h | h | h
            · exact .inr (known_set (by omega) (.inl h))
            · exact .inl h
            · exact .inr (known_set (by omega) (.inr h))
          by_cases e : q = i
          · subst e
            exact ⟨hset _ (.inl rfl), hset _ (.inr (.inl HMD.out))⟩
          · obtain ⟨a1, a2⟩ := hB q (by omega)
            exact ⟨hset _ (.inr (.inr a1)), hset _ (.inr (.inr a2))⟩
      refine Ev.pos (by omega) ?_
      refine Ev.pos (by omega) ?_
      refine Ev.pos (by omega) ?_
      refine Ev.ite (fun e => ?_) (fun e => ?_)
      · obtain ⟨g0, g1⟩ := HG.out
        rw [if_pos ((bt_same hw hi').1 e)] at g0 g1
        refine Ev.pos (by omega) ?_
        refine Ev.pos (by omega) ?_
        refine Ev.pos (by omega) ?_
        exact go _ _ g0.symm g1.symm
      · obtain ⟨g0, g1⟩ := HG.out
        rw [if_neg (fun h => e ((bt_same hw hi').2 h))] at g0 g1
        refine Ev.pos (by omega) ?_
        refine Ev.pos (by omega) ?_
        refine Ev.pos (by omega) ?_
        exact go _ _ g0.symm g1.symm
  have W0 := Aside0.mk (cast_nums s.size (by omega)).1
  unfold impl_cornersOf.f
  rw [W0.out]
  refine Ev.pos (by omega) (Ev.pos (by omega) (Ev.bind (impl_partnersOf_ev s hw) ?_))
  rw [pars_length]
  exact key s.size 0 (by omega) (by omega) _ _ (by rw [List.length_replicate]; omega) (by rw [List.length_replicate]; omega) (fun q hq => by omega) (fun q hq => by omega)
/-! ### impl_WordNumber -/
theorem impl_WordNumber_ev (s : ByteArray) : Ev (fun k => impl_WordNumber.f k s) (if WOK s then (corners s : Int) - (s.size / 2 : Nat) + 1 else -100) := by
  unfold impl_WordNumber.f
  refine Ev.bindc (impl_WordValid_eq s) ?_
  by_cases hw : WOK s
  · rw [if_pos hw]
    refine Ev.pos (decide_eq_true hw) (Ev.bind (impl_cornersOf_ev s hw) (Ev.const ?_))
    have hz := hw.size
    have hc : corners s ≤ 2 * s.size := cntP_le _ _
    rw [show ((s.size : Int) / 2) = ((s.size / 2 : Nat) : Int) from rfl, wrap64_id (x := ((s.size / 2 : Nat) : Int)) (by omega) (by omega), wrap64_id (x := (corners s : Int) - _) (by omega) (by omega), wrap64_id (by omega) (by omega)]
  · rw [if_neg hw]
    exact Ev.neg (by simp [hw]) (Ev.const rfl)
/-! ### impl_WordSided -/
theorem impl_WordSided_ev (s : ByteArray) : Ev (fun k => impl_WordSided.f k s) (decide (WSD s)) := by
  unfold impl_WordSided.f
  refine Ev.bindc (impl_WordValid_eq s) ?_
  by_cases hw : WOK s
  · have hz := hw.size
    rw [decide_eq_true hw]
    refine Ev.pos rfl (Ev.bind (impl_partnersOf_ev s hw) ?_)
    rw [pars_length]
    have key : ∀ d i, s.size - i = d → i ≤ s.size → (∀ q, q < i → wsm s q ≠ wsm s (par s q)) → Ev (fun k => impl_WordSided.l0 k s (pars s) (s.size : Nat) (i : Nat)) (decide (WSD s)) := by
      intro d
      induction d with
      | zero =>
        intro i hd hi hq
        obtain rfl : i = s.size := by omega
        refine Ev.step (fun k => by rw [impl_WordSided.l0]) (Ev.neg (by omega) (Ev.const ?_))
        rw [decide_eq_true (show WSD s from ⟨hw, hq⟩)]
      | succ d ih =>
        intro i hd hi hq
        obtain ⟨p1, p2, p3, p4⟩ := par_spec hw (i := i) (by omega)
        refine Ev.step (fun k => by rw [impl_WordSided.l0]) (Ev.pos (by omega) (Ev.pos (by omega) (Ev.pos (by rw [pars_length]; omega) (Ev.pos (by omega) ?_))))
        rw [rd_pars s i (by omega)]
        refine Ev.pos (by omega) (Ev.pos (by omega) (Ev.ite (fun e => Ev.const ?_) (fun e => ?_)))
        · rw [decide_eq_false]
          intro w
          exact w.2 i (by omega) ((bt_same hw (by omega)).1 e)
        · rw [wrap64_id (by omega) (by omega)]
          exact ih (i + 1) (by omega) (by omega) (fun q hqi => by
            by_cases eq : q = i
            · subst eq; exact fun e2 => e ((bt_same hw (by omega)).2 e2)
            · exact hq q (by omega))
    exact key s.size 0 (by omega) (by omega) (fun q hq => by omega)
  · rw [decide_eq_false hw, decide_eq_false (fun w : WSD s => hw w.1)]
    exact Ev.neg (by simp) (Ev.const rfl)
/-! ### impl_WordClass -/
theorem impl_WordClass_ev (s : ByteArray) : Ev (fun k => impl_WordClass.f k s) (if WOK s then clsS s else (⟨#[]⟩ : ByteArray)) := by
  have z1 : ∀ x : Int, (strOfNums [x]).size = 1 := fun x => strOfNums_size _
  unfold impl_WordClass.f
  refine Ev.bindc (impl_WordValid_eq s) ?_
  by_cases hw : WOK s
  · have hn := nnW_lt hw
    have hnum := impl_WordNumber_ev s
    rw [if_pos hw] at hnum
    rw [if_pos hw]
    refine Ev.pos (decide_eq_true hw) ?_
    refine Ev.bind hnum ?_
    refine Ev.bind (impl_WordSided_ev s) ?_
    rw [nnW_eq hw, wrap64_id (x := (nnW s : Int)) (by omega) (by omega)]
    by_cases hs' : WSD s
    · refine Ev.pos (decide_eq_true hs') ?_
      rw [show Int.tdiv (nnW s : Int) 2 = ((nnW s / 2 : Nat) : Int) from (Int.ofNat_tdiv _ _).symm, wrap64_id (by omega) (by omega)]
      refine Ev.bindc (strconv_Itoa_dig _ (by omega) (by omega)) ?_
      refine Ev.pos (by rw [z1]; omega) (Ev.const ?_)
      unfold clsS; rw [if_pos hs']
    · refine Ev.neg (by simp [hs']) ?_
      refine Ev.bindc (strconv_Itoa_dig _ (by omega) (by omega)) ?_
      refine Ev.pos (by rw [z1]; omega) (Ev.const ?_)
      unfold clsS; rw [if_neg hs']
  · rw [if_neg hw]
    exact Ev.neg (by simp [hw]) (Ev.const rfl)
/-! ### impl_numberOf -/
theorem impl_numberOf_ex (s : ByteArray) : ∃ n, Ev (fun k => impl_numberOf.f k s) n := by
  have key : ∀ d i n, s.size - i = d → i ≤ s.size → s.size ≤ 2 → ∃ r, Ev (fun k => impl_numberOf.l0 k s n (s.size : Int) (i : Nat)) r := by
    intro d
    induction d with
    | zero =>
      intro i n hd hi hs
      exact ⟨n, Ev.step (fun k => by rw [impl_numberOf.l0]) (Ev.neg (by omega) (Ev.const rfl))⟩
    | succ d ih =>
      intro i n hd hi hs
      obtain ⟨r, hr⟩ := ih (i + 1) (wrap64 ((wrap64 (n * 10)) + (((bt s (i : Nat)) - 48) % 256))) (by omega) (by omega) hs
      by_cases h1 : bt s (i : Nat) < 48
      · exact ⟨-1, Ev.step (fun k => by rw [impl_numberOf.l0]) (Ev.pos (by omega) (Ev.pos (by omega) (Ev.pos (by omega) (Ev.pos h1 (Ev.const rfl)))))⟩
      · by_cases h2 : bt s (i : Nat) > 57
        · exact ⟨-1, Ev.step (fun k => by rw [impl_numberOf.l0]) (Ev.pos (by omega) (Ev.pos (by omega) (Ev.pos (by omega) (Ev.neg h1 (Ev.pos h2 (Ev.const rfl))))))⟩
        · refine ⟨r, Ev.step (fun k => by rw [impl_numberOf.l0]) (Ev.pos (by omega) (Ev.pos (by omega) (Ev.pos (by omega) (Ev.neg h1 (Ev.neg h2 ?_)))))⟩
          rw [wrap64_id (x := ((i : Nat) : Int) + 1) (by omega) (by omega)]
          exact hr
  by_cases h0 : (s.size : Int) < 1
  · refine ⟨-1, ?_⟩
    unfold impl_numberOf.f
    refine Ev.pos h0 (Ev.step (fun k => by rw [impl_numberOf.j0]) (Ev.pos rfl (Ev.const rfl)))
  · by_cases h2 : (s.size : Int) > 2
    · refine ⟨-1, ?_⟩
      unfold impl_numberOf.f
      refine Ev.neg h0 (Ev.step (fun k => by rw [impl_numberOf.j0]) (Ev.pos (decide_eq_true h2) (Ev.const rfl)))
    · obtain ⟨r, hr⟩ := key _ 0 0 rfl (by omega) (by omega)
      refine ⟨r, ?_⟩
      unfold impl_numberOf.f
      refine Ev.neg h0 (Ev.step (fun k => by rw [impl_numberOf.j0]) ?_)
      exact Ev.neg (by rw [decide_eq_false h2]; decide) hr
/-! ### impl_Execute -/
theorem xe_lines (t : ByteArray) (l : List ByteArray) (h : Lib.split t.data.toList [10] = l.map (·.data.toList)) : XE.linesOf t = l := xs_splitB_of 10 t l h
theorem xe_words (t : ByteArray) (l : List ByteArray) (h : Lib.split t.data.toList [32] = l.map (·.data.toList)) : XE.wordsOf t = l := xs_splitB_of 32 t l h
theorem xe_nil (x : ByteArray) : (⟨#[]⟩ : ByteArray) ++ x = x := by
  show ByteArray.empty ++ x = x
  simp
/-! ### laws_digits -/
theorem digits_lo : ∀ n : Fin 10, (strOfNums [(wrap64 (48 + (n.val : Int))) % 256] : ByteArray) = ⟨(Lib.decDigits n.val).toArray⟩ := by decide +kernel
theorem digits_hi : ∀ n : Fin 100, 10 ≤ n.val → (strOfNums [(wrap64 (48 + ((n.val / 10 : Nat) : Int))) % 256] ++ strOfNums [(wrap64 (48 + (Int.tmod (n.val : Int) 10))) % 256] : ByteArray) = ⟨(Lib.decDigits n.val).toArray⟩ := by decide +kernel
theorem laws_digits_ev (n : Nat) (h : n < 100) : Ev (fun k => laws_digits.f k (n : Int)) ⟨(Lib.decDigits n).toArray⟩ := by
  have z : ∀ x : Int, (strOfNums [x]).size = 1 := fun x => rfl
  have low : ∀ m : Nat, m < 10 → Ev (fun k => laws_digits.f k (m : Int)) (strOfNums [(wrap64 (48 + (m : Int))) % 256]) := fun m hm =>
    Ev.step (fun k => by rw [laws_digits.f]) (Ev.pos (by omega) (Ev.const rfl))
  by_cases h0 : n < 10
  · exact Ev.to (low n h0) (digits_lo ⟨n, h0⟩)
  · refine Ev.step (fun k => by rw [laws_digits.f]) (Ev.neg (by omega) ?_)
    have e : wrap64 (Int.tdiv (n : Int) 10) = ((n / 10 : Nat) : Int) := by
      rw [show Int.tdiv (n : Int) 10 = ((n / 10 : Nat) : Int) from (Int.ofNat_tdiv _ _).symm, wrap64_id (by omega) (by omega)]
    rw [e]
    refine Ev.bind (low (n / 10) (by omega)) ?_
    refine Ev.bindc rfl ?_
    exact Ev.pos (by rw [z, z]; omega) (Ev.const (congrArg some (digits_hi ⟨n, h⟩ (show 10 ≤ n by omega))))
/-! ### laws_endLine -/
theorem endline_size : ∀ n : Fin 100, (⟨(Lib.decDigits n.val).toArray⟩ : ByteArray).size ≤ 2 := by decide +kernel
theorem laws_endLine_ev (n : Nat) (h : n < 100) : Ev (fun k => laws_endLine.f k (n : Int)) ((⟨#[100, 97, 114, 116, 115, 32]⟩ ++ ⟨(Lib.decDigits n).toArray⟩) ++ ⟨#[10]⟩) := by
  have hz : (⟨(Lib.decDigits n).toArray⟩ : ByteArray).size ≤ 2 := endline_size ⟨n, h⟩
  unfold laws_endLine.f
  refine Ev.bind (laws_digits_ev n h) ?_
  refine Ev.pos (by omega) (Ev.pos ?_ (Ev.const rfl))
  rw [ByteArray.size_append, show (⟨#[100, 97, 114, 116, 115, 32]⟩ : ByteArray).size = 6 from rfl]
  omega
/-! ### spec_l6Open -/
theorem spec_l6Open_ex (l : List Int) (h : Bytes l) : ∃ m, spec_l6Open.f l = some (m, 0) ∧ Bytes m ∧ m.length ≤ 2000 := by
  unfold spec_l6Open.f
  by_cases h1 : (l.length : Int) > 2000
  · rw [if_pos h1, if_pos (by omega)]
    exact ⟨_, rfl, h.take 2000, by simp; omega⟩
  · rw [if_neg h1]
    exact ⟨_, rfl, h, by omega⟩
/-! ### spec_l6Rd_pick -/
theorem spec_l6Rd_pick_ex (l : List Int) (hb : Bytes l) (hn : l.length ≤ 2000) (p a : Int) (hp0 : 0 ≤ p) (hp1 : p ≤ 1099511627776) : ∃ x, Ev (fun k => spec_l6Rd_pick.f k l p a) (x, p + 1) ∧ 0 ≤ x ∧ (1 ≤ a → x < a) := by
  have hw : wrap64 (p + 1) = p + 1 := wrap64_id (by omega) (by omega)
  have ht : Ev (fun k => spec_l6Rd_pick.j0 k a true l (p + 1)) (0, p + 1) := by
    refine Ev.step (fun k => by rw [spec_l6Rd_pick.j0]) ?_
    exact Ev.pos rfl (Ev.const rfl)
  by_cases ha : a < 1
  · refine ⟨0, ?_, Int.le_refl _, fun h => by omega⟩
    unfold spec_l6Rd_pick.f
    rw [hw]
    exact Ev.pos ha ht
  · by_cases hl : (l.length : Int) = 0
    · refine ⟨0, ?_, Int.le_refl _, fun h => by omega⟩
      unfold spec_l6Rd_pick.f
      rw [hw]
      refine Ev.neg ha ?_
      rw [show ((l.length : Int) == 0) = true from beq_iff_eq.2 hl]
      exact ht
    · have hw2 : wrap64 (p + 1 - 1) = p := by rw [wrap64_id (by omega) (by omega)]; omega
      by_cases hlt : p < l.length
      · obtain ⟨b0, b1⟩ := hb.at p hp0 hlt
        have hx := tmod_bd (rd l p) a b0 (by omega)
        refine ⟨Int.tmod (rd l p) a, ?_, hx.1, fun _ => hx.2⟩
        unfold spec_l6Rd_pick.f
        rw [hw, show ((l.length : Int) == 0) = false from beq_eq_false_iff_ne.2 hl]
        refine Ev.neg ha ?_
        refine Ev.step (fun k => by rw [spec_l6Rd_pick.j0]) ?_
        rw [hw2, wrap64_id (x := rd l p) (by omega) (by omega)]
        refine Ev.neg (by simp) ?_
        refine Ev.pos hlt ?_
        refine Ev.pos hp0 ?_
        refine Ev.neg (by omega) ?_
        exact Ev.const rfl
      · obtain ⟨m0, m1⟩ := tmod_bd p (l.length : Int) hp0 (by omega)
        have e1 : wrap64 (p * 7) = p * 7 := wrap64_id (by omega) (by omega)
        have e2 : wrap64 (p * 7 + 3) = p * 7 + 3 := wrap64_id (by omega) (by omega)
        obtain ⟨n0, n1⟩ := tmod_bd (p * 7 + 3) (l.length : Int) (by omega) (by omega)
        have d0 : 0 ≤ Int.tdiv p (l.length : Int) := Int.tdiv_nonneg hp0 (by omega)
        have d1 : Int.tdiv p (l.length : Int) ≤ p := by
          rw [Int.tdiv_eq_ediv_of_nonneg hp0]; exact Int.ediv_le_self _ hp0
        obtain ⟨b0, b1⟩ := hb.at _ m0 m1
        obtain ⟨c0, c1⟩ := hb.at _ n0 n1
        suffices hs : ∃ x, Ev (fun k => spec_l6Rd_pick.j0 k a false l (p + 1)) (x, p + 1) ∧ 0 ≤ x ∧ (1 ≤ a → x < a) by
          obtain ⟨x, h1, h2⟩ := hs
          refine ⟨x, ?_, h2⟩
          unfold spec_l6Rd_pick.f
          rw [hw, show ((l.length : Int) == 0) = false from beq_eq_false_iff_ne.2 hl]
          exact Ev.neg ha h1
        have hun : ∀ r, (∃ x, Ev (fun _ : Nat => r) (x, p + 1) ∧ 0 ≤ x ∧ (1 ≤ a → x < a)) →
            (∀ k, spec_l6Rd_pick.j0 (k + 1) a false l (p + 1) = r) → ∃ x, Ev (fun k => spec_l6Rd_pick.j0 k a false l (p + 1)) (x, p + 1) ∧ 0 ≤ x ∧ (1 ≤ a → x < a) := by
          rintro r ⟨x, h1, h2⟩ h3
          exact ⟨x, Ev.step h3 h1, h2⟩
        refine hun _ ?_ (fun k => by
          rw [spec_l6Rd_pick.j0, if_neg (by simp), hw2, if_neg hlt, if_neg hl, if_pos m0, if_pos m1, e1, e2, if_pos n0, if_pos n1, if_neg (by omega)])
        generalize rd l (Int.tmod p (l.length : Int)) = u at *
        generalize rd l (Int.tmod (p * 7 + 3) (l.length : Int)) = v at *
        generalize Int.tdiv p (l.length : Int) = w at *
        rw [wrap64_id (x := u) (by omega) (by omega), wrap64_id (x := v) (by omega) (by omega), wrap64_id (x := w) (by omega) (by omega),
          wrap64_id (x := u * 131) (by omega) (by omega), wrap64_id (x := v * 1117) (by omega) (by omega), wrap64_id (x := p * 29) (by omega) (by omega), wrap64_id (x := w * 53) (by omega) (by omega),
          wrap64_id (x := u * 131 + v * 1117) (by omega) (by omega), wrap64_id (x := u * 131 + v * 1117 + p * 29) (by omega) (by omega), wrap64_id (x := u * 131 + v * 1117 + p * 29 + w * 53) (by omega) (by omega)]
        have hX0 : 0 ≤ u * 131 + v * 1117 + p * 29 + w * 53 := by omega
        have hX1 : u * 131 + v * 1117 + p * 29 + w * 53 < 4611686018427387904 := by omega
        generalize u * 131 + v * 1117 + p * 29 + w * 53 = X at *
        have hq : Int.tdiv X 64 = X / 64 := Int.tdiv_eq_ediv_of_nonneg hX0
        rw [hq, wrap64_id (x := X / 64) (by omega) (by omega)]
        have hxor := xor_nonneg X (X / 64) hX0 (by omega) hX1 (by omega)
        obtain ⟨r0, r1⟩ := tmod_bd _ a hxor (by omega)
        exact ⟨_, Ev.const rfl, r0, fun _ => r1⟩
/-! ### spec_l8Name -/
theorem spec_l8Name_eq (n : Int) (b : Bool) (h0 : 0 ≤ n) (h1 : n < 100) : spec_l8Name.f n b = some (strOfNums [if b = true then 97 + n else 65 + n]) := by
  unfold spec_l8Name.f
  rw [wrap64_id (x := 97 + n) (by omega) (by omega), wrap64_id (x := 65 + n) (by omega) (by omega), Int.emod_eq_of_lt (a := 97 + n) (by omega) (by omega), Int.emod_eq_of_lt (a := 65 + n) (by omega) (by omega)]
  cases b <;> rfl
/-! ### spec_l8Letter -/
theorem spec_l8Letter_ev (x : Int) (h0 : 0 ≤ x) (h1 : x ≤ 255) : Ev (fun k => spec_l8Letter.f k x) (slet x) := by
  have hj : ∀ b, Ev (fun k => spec_l8Letter.j0 k x b) (if b = true then (x - 97) % 256 else if x ≥ 65 then if x < 70 then (x - 65) % 256 else -1 else -1) := by
    intro b
    refine Ev.step (fun k => by rw [spec_l8Letter.j0]) ?_
    refine Ev.const ?_
    repeat' split
    all_goals rfl
  unfold spec_l8Letter.f slet
  refine Ev.ite (fun h => Ev.to (hj _) ?_) (fun h => Ev.to (hj _) ?_)
  · by_cases h2 : x < 102 <;> simp [h2] <;> omega
  · simp
    split <;> split <;> omega
/-! ### spec_l8Small -/
theorem spec_l8Small_eq (x : Int) : spec_l8Small.f x = some (decide (x ≥ 97)) := rfl
/-! ### spec_l8Other -/
theorem spec_l8Other_ev (x : Int) (h0 : 0 ≤ x) (h1 : x ≤ 255) (hx : 0 ≤ slet x) : Ev (fun k => spec_l8Other.f k x) (strOfNums [fl x]) := by
  have hr := slet_range x
  unfold spec_l8Other.f
  refine Ev.bind (spec_l8Letter_ev x h0 h1) ?_
  refine Ev.bindc (spec_l8Small_eq _) ?_
  refine Ev.bindc (spec_l8Name_eq _ _ hx (by omega)) ?_
  refine Ev.const ?_
  congr 3
  unfold fl slet at *
  by_cases e : x ≥ 97
  · simp [e] at hx ⊢
    split at hx <;> simp_all <;> omega
  · simp [e] at hx ⊢
    split at hx <;> simp_all <;> omega
/-! ### spec_l6Rd_of -/
theorem spec_l6Rd_of_ex (l : List Int) (hb : Bytes l) (hn : l.length ≤ 2000) (p : Int) (xs : List ByteArray) (hx : 1 ≤ xs.length) (hs : ∀ s ∈ xs, s.size ≤ 100) (hp0 : 0 ≤ p) (hp1 : p ≤ 1099511627776) :
    ∃ s, Ev (fun k => spec_l6Rd_of.f k l p xs) (s, p + 1) ∧ s.size ≤ 100 := by
  obtain ⟨x, h1, h2, h3⟩ := spec_l6Rd_pick_ex l hb hn p (xs.length : Int) hp0 hp1
  have h4 := h3 (by omega)
  refine ⟨rdOf ByteArray.empty xs x, ?_, ?_⟩
  · unfold spec_l6Rd_of.f
    refine Ev.bind h1 ?_
    refine Ev.pos h2 ?_
    refine Ev.pos h4 ?_
    exact Ev.const rfl
  · obtain ⟨n, rfl⟩ := Int.eq_ofNat_of_zero_le h2
    have hn : n < xs.length := by omega
    have : rdOf ByteArray.empty xs (n : Int) = xs[n] := by simp [rdOf, List.getD_eq_getElem?_getD, hn]
    rw [this]
    exact hs _ (List.getElem_mem hn)
/-! ### spec_l92Word -/
theorem spec_l92Word_ex (l : List Int) (hb : Bytes l) (hn : l.length ≤ 2000) (p a : Int) (hp0 : 0 ≤ p) (hp1 : p ≤ 1000000) (ha0 : 1 ≤ a) (ha1 : a ≤ 5) :
    ∃ s p', Ev (fun k => spec_l92Word.f k l p a) (s, p') ∧ s.size ≤ 200 ∧ 0 ≤ p' ∧ p' ≤ p + 200 := by
  obtain ⟨n, n1, n2, n3⟩ := spec_l6Rd_pick_ex l hb hn p a hp0 (by omega)
  have n4 := n3 (by omega)
  obtain ⟨b, b1, b2, b3⟩ := spec_l6Rd_pick_ex l hb hn (p + 1) 2 (by omega) (by omega)
  have z1 : ∀ x : Int, (strOfNums [x]).size = 1 := fun x => strOfNums_size _
  have z2 : ∀ (s : ByteArray) (i j : Nat), (s.extract i j).size ≤ s.size := fun s i j => by rw [ByteArray.size_extract]; omega
  have ins : ∀ (s c : ByteArray) (i : Int), 0 ≤ i → i ≤ s.size → ((s.extract 0 i.toNat ++ c) ++ s.extract i.toNat s.size).size = s.size + c.size := by
    intro s c i h0 h1
    rw [ByteArray.size_append, ByteArray.size_append, ByteArray.size_extract, ByteArray.size_extract]; omega
  have key : ∀ d i, (n + 1 - i).toNat = d → 0 ≤ i → i ≤ n + 1 → ∀ (s : ByteArray) (q : Int) (bo : Bool), s.size ≤ 2 * i → 0 ≤ q → q ≤ p + 2 + 4 * i →
      ∃ t q', Ev (fun k => spec_l92Word.l0 k s (n + 1) bo i l q) (t, q') ∧ t.size ≤ 200 ∧ 0 ≤ q' ∧ q' ≤ p + 200 := by
    intro d
    induction d with
    | zero =>
      intro i hd hi0 hi s q bo hs hq0 hq1
      obtain ⟨x, x1, x2, x3⟩ := spec_l6Rd_pick_ex l hb hn q 24 hq0 (by omega)
      by_cases e : x = 0
      · obtain ⟨t, t1, t2⟩ := spec_l6Rd_of_ex l hb hn (q + 1) [(⟨#[97]⟩ : ByteArray), (⟨#[102]⟩ : ByteArray), (⟨#[101, 101]⟩ : ByteArray), (⟨#[32]⟩ : ByteArray), (⟨#[65]⟩ : ByteArray)] (by simp) (fun u hu => by
          simp only [List.mem_cons, List.not_mem_nil, or_false] at hu
          rcases hu with rfl | rfl | rfl | rfl | rfl <;> decide) (by omega) (by omega)
        refine ⟨s ++ t, q + 1 + 1, ?_, by rw [ByteArray.size_append]; omega, by omega, by omega⟩
        refine Ev.step (fun k => by rw [spec_l92Word.l0]) ?_
        refine Ev.neg (by omega) ?_
        refine Ev.bind x1 ?_
        refine Ev.pos e ?_
        refine Ev.bind t1 ?_
        refine Ev.pos (show s.size + t.size ≤ 9223372036854775807 by omega) ?_
        exact Ev.const rfl
      · refine ⟨s, q + 1, ?_, by omega, by omega, by omega⟩
        refine Ev.step (fun k => by rw [spec_l92Word.l0]) ?_
        refine Ev.neg (by omega) ?_
        refine Ev.bind x1 ?_
        refine Ev.neg e ?_
        exact Ev.const rfl
    | succ d ih =>
      intro i hd hi0 hi s q bo hs hq0 hq1
      obtain ⟨x, x1, x2, x3⟩ := spec_l6Rd_pick_ex l hb hn q 2 hq0 (by omega)
      obtain ⟨y, y1, y2, y3⟩ := spec_l6Rd_pick_ex l hb hn (q + 1) 2 (by omega) (by omega)
      -- the letters
      have hA := spec_l8Name_eq i (x == 0) hi0 (by omega)
      have hB := spec_l8Name_eq i (y == 0) hi0 (by omega)
      have hu : ∀ bb : Bool, 0 ≤ slet (if bb = true then 97 + i else 65 + i) ∧ 0 ≤ (if bb = true then 97 + i else 65 + i) ∧ (if bb = true then 97 + i else 65 + i) ≤ 255 := fun bb => by
        obtain ⟨l1, l2⟩ := slet_small hi0 (show i < 5 by omega)
        cases bb <;> simp <;> omega
      have hux := hu (x == 0)
      generalize (if (x == 0) = true then 97 + i else 65 + i) = u at hA hux
      generalize (if (y == 0) = true then 97 + i else 65 + i) = v at hB
      have hbu : bt (strOfNums [u]) 0 = u := bt_strOfNums [u] 0 (by simp) hux.2.1 hux.2.2
      clear hu
      have ww : wrap64 (i + 1) = i + 1 := wrap64_id (by omega) (by omega)
      have tail : ∀ c : ByteArray, c.size = 1 → ∃ t q', (∃ x' y' : Int, 0 ≤ x' ∧ x' ≤ s.size ∧ 0 ≤ y' ∧ y' ≤ ((s.extract 0 x'.toNat ++ strOfNums [u]) ++ s.extract x'.toNat s.size).size ∧
          Ev (fun k => spec_l6Rd_pick.f k l (q + 1 + 1) ((s.size : Int) + 1)) (x', q + 1 + 1 + 1) ∧
          Ev (fun k => spec_l6Rd_pick.f k l (q + 1 + 1 + 1) ((((s.extract 0 x'.toNat ++ strOfNums [u]) ++ s.extract x'.toNat s.size).size : Int) + 1)) (y', q + 1 + 1 + 1 + 1) ∧
          Ev (fun k => spec_l92Word.l0 k ((((s.extract 0 x'.toNat ++ strOfNums [u]) ++ s.extract x'.toNat s.size).extract 0 y'.toNat ++ c) ++ ((s.extract 0 x'.toNat ++ strOfNums [u]) ++ s.extract x'.toNat s.size).extract y'.toNat ((s.extract 0 x'.toNat ++ strOfNums [u]) ++ s.extract x'.toNat s.size).size) (n + 1) bo (i + 1) l (q + 1 + 1 + 1 + 1)) (t, q')) ∧ t.size ≤ 200 ∧ 0 ≤ q' ∧ q' ≤ p + 200 := by
        intro c hc
        obtain ⟨x', a1, a2, a3⟩ := spec_l6Rd_pick_ex l hb hn (q + 1 + 1) ((s.size : Int) + 1) (by omega) (by omega)
        have a4 := a3 (by omega)
        have s1 := ins s (strOfNums [u]) x' a2 (by omega)
        rw [z1] at s1
        generalize hs2 : (s.extract 0 x'.toNat ++ strOfNums [u]) ++ s.extract x'.toNat s.size = s2 at *
        obtain ⟨y', c1, c2, c3⟩ := spec_l6Rd_pick_ex l hb hn (q + 1 + 1 + 1) ((s2.size : Int) + 1) (by omega) (by omega)
        have c4 := c3 (by omega)
        have s3 := ins s2 c y' c2 (by omega)
        obtain ⟨t, q', t1, t2, t3, t4⟩ := ih (i + 1) (by omega) (by omega) (by omega) ((s2.extract 0 y'.toNat ++ c) ++ s2.extract y'.toNat s2.size) (q + 1 + 1 + 1 + 1) bo (by omega) (by omega) (by omega)
        refine ⟨t, q', ⟨x', y', a2, by omega, c2, ?_, a1, ?_, ?_⟩, t2, t3, t4⟩
        · rw [hs2]; omega
        · rw [hs2]; exact c1
        · rw [hs2]; exact t1
      cases bo with
      | true =>
        have hoth := spec_l8Other_ev u hux.2.1 hux.2.2 hux.1
        obtain ⟨t, q', ⟨x', y', b1, b2, b3, b4, E1, E2, E3⟩, t2, t3, t4⟩ := tail (strOfNums [fl u]) (z1 _)
        refine ⟨t, q', ?_, t2, t3, t4⟩
        have s1 := ins s (strOfNums [u]) x' b1 b2
        rw [z1] at s1
        have sz1 := z2 s 0 x'.toNat
        have sz2 := z2 s x'.toNat s.size
        refine Ev.step (fun k => by rw [spec_l92Word.l0]) ?_
        refine Ev.pos (by omega) ?_
        refine Ev.bind x1 ?_
        refine Ev.bindc hA ?_
        refine Ev.bind y1 ?_
        refine Ev.bindc hB ?_
        refine Ev.pos rfl ?_
        refine Ev.pos (by rw [z1]; omega) ?_
        rw [hbu]
        refine Ev.bind hoth ?_
        rw [wrap64_id (x := (s.size : Int) + 1) (by omega) (by omega)]
        refine Ev.bind E1 ?_
        dsimp only
        refine Ev.pos b1 ?_
        refine Ev.pos b2 ?_
        refine Ev.pos (show _ + _ ≤ 9223372036854775807 by rw [z1]; omega) ?_
        refine Ev.pos (show _ + _ ≤ 9223372036854775807 by rw [ByteArray.size_append, z1]; omega) ?_
        generalize hs2 : (s.extract 0 x'.toNat ++ strOfNums [u]) ++ s.extract x'.toNat s.size = s2 at *
        rw [wrap64_id (x := (s2.size : Int) + 1) (by omega) (by omega), ww]
        have sz3 := z2 s2 0 y'.toNat
        have sz4 := z2 s2 y'.toNat s2.size
        refine Ev.bind E2 ?_
        dsimp only
        refine Ev.pos b3 ?_
        refine Ev.pos b4 ?_
        refine Ev.pos (show _ + _ ≤ 9223372036854775807 by rw [z1]; omega) ?_
        refine Ev.pos (show _ + _ ≤ 9223372036854775807 by rw [ByteArray.size_append, z1]; omega) ?_
        exact E3
      | false =>
        obtain ⟨t, q', ⟨x', y', b1, b2, b3, b4, E1, E2, E3⟩, t2, t3, t4⟩ := tail (strOfNums [v]) (z1 _)
        refine ⟨t, q', ?_, t2, t3, t4⟩
        have s1 := ins s (strOfNums [u]) x' b1 b2
        rw [z1] at s1
        have sz1 := z2 s 0 x'.toNat
        have sz2 := z2 s x'.toNat s.size
        refine Ev.step (fun k => by rw [spec_l92Word.l0]) ?_
        refine Ev.pos (by omega) ?_
        refine Ev.bind x1 ?_
        refine Ev.bindc hA ?_
        refine Ev.bind y1 ?_
        refine Ev.bindc hB ?_
        refine Ev.neg (by simp) ?_
        rw [wrap64_id (x := (s.size : Int) + 1) (by omega) (by omega)]
        refine Ev.bind E1 ?_
        dsimp only
        refine Ev.pos b1 ?_
        refine Ev.pos b2 ?_
        refine Ev.pos (show _ + _ ≤ 9223372036854775807 by rw [z1]; omega) ?_
        refine Ev.pos (show _ + _ ≤ 9223372036854775807 by rw [ByteArray.size_append, z1]; omega) ?_
        generalize hs2 : (s.extract 0 x'.toNat ++ strOfNums [u]) ++ s.extract x'.toNat s.size = s2 at *
        rw [wrap64_id (x := (s2.size : Int) + 1) (by omega) (by omega), ww]
        have sz3 := z2 s2 0 y'.toNat
        have sz4 := z2 s2 y'.toNat s2.size
        refine Ev.bind E2 ?_
        dsimp only
        refine Ev.pos b3 ?_
        refine Ev.pos b4 ?_
        refine Ev.pos (show _ + _ ≤ 9223372036854775807 by rw [z1]; omega) ?_
        refine Ev.pos (show _ + _ ≤ 9223372036854775807 by rw [ByteArray.size_append, z1]; omega) ?_
        exact E3
  obtain ⟨t, q', h1, h2, h3, h4⟩ := key (n + 1 - 0).toNat 0 rfl (Int.le_refl _) (by omega) (⟨#[]⟩ : ByteArray) (p + 1 + 1) (b == 0) (by decide) (by omega) (by omega)
  refine ⟨t, q', ?_, h2, h3, h4⟩
  unfold spec_l92Word.f
  refine Ev.bind n1 ?_
  refine Ev.bind b1 ?_
  rw [wrap64_id (by omega) (by omega), show 1 + (n, p + 1).1 = n + 1 from Int.add_comm _ _]
  exact h1
/-! ### spec_DrawWordClass -/
theorem spec_DrawWordClass_ex (l : List Int) (hb : Bytes l) : ∃ s, Ev (fun k => spec_DrawWordClass.f k l) s ∧ s.size ≤ 200 := by
  obtain ⟨m, h1, h2, h3⟩ := spec_l6Open_ex l hb
  obtain ⟨t, q', t1, t2, t3, t4⟩ := spec_l92Word_ex m h2 h3 0 5 (by omega) (by omega) (by omega) (by omega)
  refine ⟨t, ?_, t2⟩
  unfold spec_DrawWordClass.f
  refine Ev.bindc h1 ?_
  refine Ev.bind t1 ?_
  exact Ev.const rfl
/-! ### spec_WordValid -/
theorem spec_WordValid_l1_ev (s : ByteArray) (hs : s.size ≤ 1048576) (i : Nat) (hi : i < s.size) (r : Bool) (hr : Ev (fun k => spec_WordValid.l1 k s i (wcnt s (wl s i) s.size : Nat) (s.size : Nat)) r) :
    ∀ d j, s.size - j = d → j ≤ s.size → Ev (fun k => spec_WordValid.l1 k s i (wcnt s (wl s i) j : Nat) (j : Nat)) r := by
  intro d
  induction d with
  | zero => intro j hd hj; obtain rfl : j = s.size := by omega
            exact hr
  | succ d ih =>
    intro j hd hj
    have hb := wcnt_le s (wl s i) j
    refine Ev.step (fun k => by rw [spec_WordValid.l1]) ?_
    refine Ev.pos (by omega) (Ev.pos (by omega) ?_)
    refine Ev.bind (spec_l8Letter_ev _ (bt_rng _ _).1 (bt_rng _ _).2) (Ev.pos (by omega) (Ev.pos (by omega) ?_))
    refine Ev.bind (spec_l8Letter_ev _ (bt_rng _ _).1 (bt_rng _ _).2) ?_
    have := ih (j + 1) (by omega) (by omega)
    rw [wrap64_id (x := (j : Int) + 1) (by omega) (by omega)]
    refine Ev.ite (fun h => ?_) (fun h => ?_)
    · rw [wrap64_id (by omega) (by omega)]
      have e : wcnt s (wl s i) (j + 1) = wcnt s (wl s i) j + 1 := by simp only [wcnt]; exact congrArg (wcnt s (wl s i) j + ·) (if_pos h)
      rw [e] at this; exact this
    · have e : wcnt s (wl s i) (j + 1) = wcnt s (wl s i) j := by simp only [wcnt]; exact congrArg (wcnt s (wl s i) j + ·) (if_neg h)
      rw [e] at this; exact this
theorem spec_WordValid_ev (s : ByteArray) (hs : s.size ≤ 1048576) : Ev (fun k => spec_WordValid.f k s) (decide (WOK s)) := by
  have key : ∀ d i, s.size - i = d → i ≤ s.size → (∀ q, q < i → 0 ≤ wl s q ∧ wcnt s (wl s q) s.size = 2) → Ev (fun k => spec_WordValid.l0 k s (i : Nat)) (decide (WOK s)) := by
    intro d
    induction d with
    | zero =>
      intro i hd hi hq
      obtain rfl : i = s.size := by omega
      refine Ev.step (fun k => by rw [spec_WordValid.l0]) (Ev.neg (by omega) (Ev.const ?_))
      congr 1
      rw [decide_eq_decide]
      exact ⟨fun h => ⟨by omega, hq⟩, fun h => by have := h.1; omega⟩
    | succ d ih =>
      intro i hd hi hq
      refine Ev.step (fun k => by rw [spec_WordValid.l0]) (Ev.pos (by omega) ?_)
      refine spec_WordValid_l1_ev s hs i (by omega) _ ?_ s.size 0 (by omega) (by omega)
      refine Ev.step (fun k => by rw [spec_WordValid.l1]) (Ev.neg (by omega) (Ev.pos (by omega) (Ev.pos (by omega) ?_)))
      refine Ev.bind (spec_l8Letter_ev _ (bt_rng _ _).1 (bt_rng _ _).2) ?_
      have hn : ∀ h : ¬ (0 ≤ wl s i ∧ wcnt s (wl s i) s.size = 2), some false = some (decide (WOK s)) := fun h => by
        rw [decide_eq_false (fun w => h (w.2 i (by omega)))]
      refine Ev.ite (fun h => Ev.const (hn (fun a => by have := a.1; simp only [wl] at this; omega))) (fun h => ?_)
      refine Ev.ite (fun h2 => ?_) (fun h2 => Ev.const (hn (fun a => h2 (by have := a.2; omega))))
      rw [wrap64_id (by omega) (by omega)]
      exact ih (i + 1) (by omega) (by omega) (fun q hqi => by
        by_cases e : q = i
        · subst e; exact ⟨by simp only [wl]; omega, by omega⟩
        · exact hq q (by omega))
  unfold spec_WordValid.f
  exact key s.size 0 (by omega) (by omega) (fun q hq => by omega)
/-! ### spec_l8Partner -/
theorem spec_l8Partner_ev (s : ByteArray) (hs : s.size ≤ 1048576) (h : WOK s) (i : Nat) (hi : i < s.size) : Ev (fun k => spec_l8Partner.f k s (i : Nat)) (par s i : Nat) := by
  obtain ⟨p1, p2, p3, p4⟩ := par_spec h hi
  have key : ∀ d j, par s i - j = d → j ≤ par s i → Ev (fun k => spec_l8Partner.l0 k s (i : Nat) (j : Nat)) (par s i : Nat) := by
    intro d
    induction d with
    | zero =>
      intro j hd hj
      obtain rfl : j = par s i := by omega
      refine Ev.step (fun k => by rw [spec_l8Partner.l0]) (Ev.pos (by omega) (Ev.neg (by omega) (Ev.pos (by omega) ?_)))
      refine Ev.bind (spec_l8Letter_ev _ (bt_rng _ _).1 (bt_rng _ _).2) (Ev.pos (by omega) (Ev.pos (by omega) ?_))
      refine Ev.bind (spec_l8Letter_ev _ (bt_rng _ _).1 (bt_rng _ _).2) (Ev.pos p3 (Ev.const rfl))
    | succ d ih =>
      intro j hd hj
      have := ih (j + 1) (by omega) (by omega)
      refine Ev.step (fun k => by rw [spec_l8Partner.l0]) (Ev.pos (by omega) ?_)
      rw [wrap64_id (x := (j : Int) + 1) (by omega) (by omega)]
      refine Ev.ite (fun _ => this) (fun hne => Ev.pos (by omega) ?_)
      refine Ev.bind (spec_l8Letter_ev _ (bt_rng _ _).1 (bt_rng _ _).2) (Ev.pos (by omega) (Ev.pos (by omega) ?_))
      refine Ev.bind (spec_l8Letter_ev _ (bt_rng _ _).1 (bt_rng _ _).2) (Ev.neg (fun e => ?_) this)
      have := p4 j (by omega) (by omega) e
      omega
  unfold spec_l8Partner.f
  exact key (par s i) 0 (by omega) (by omega)
/-! ### spec_WordSided -/
theorem spec_WordSided_ev (s : ByteArray) (hs : s.size ≤ 1048576) : Ev (fun k => spec_WordSided.f k s) (decide (WSD s)) := by
  have hend : ∀ x : Int, Ev (fun k => spec_WordSided.j1 k s x false) (decide (WOK s)) := fun x => by
    refine Ev.step (fun k => by rw [spec_WordSided.j1]) (Ev.neg (by simp) ?_)
    exact Ev.bind (spec_WordValid_ev s hs) (Ev.const rfl)
  have key : ∀ d i, s.size - i = d → i ≤ s.size → (WOK s → ∀ q, q < i → wsm s q ≠ wsm s (par s q)) → Ev (fun k => spec_WordSided.l0 k s (i : Nat)) (decide (WSD s)) := by
    intro d
    induction d with
    | zero =>
      intro i hd hi hq
      obtain rfl : i = s.size := by omega
      refine Ev.step (fun k => by rw [spec_WordSided.l0]) (Ev.neg (by omega) (Ev.to (hend _) ?_))
      rw [decide_eq_decide]
      exact ⟨fun h => ⟨h, hq h⟩, fun h => h.1⟩
    | succ d ih =>
      intro i hd hi hq
      refine Ev.step (fun k => by rw [spec_WordSided.l0]) (Ev.pos (by omega) ?_)
      refine Ev.bind (spec_WordValid_ev s hs) ?_
      by_cases h : WOK s
      · rw [decide_eq_true h]
        obtain ⟨p1, p2, p3, p4⟩ := par_spec h (i := i) (by omega)
        refine Ev.step (fun k => by rw [spec_WordSided.j1]) (Ev.pos rfl (Ev.pos (by omega) (Ev.pos (by omega) ?_)))
        refine Ev.bindc (spec_l8Small_eq _) (Ev.bind (spec_l8Partner_ev s hs h i (by omega)) (Ev.pos (by omega) (Ev.pos (by omega) (Ev.bindc (spec_l8Small_eq _) ?_))))
        refine Ev.ite (fun e => Ev.const ?_) (fun e => ?_)
        · rw [decide_eq_false]
          intro w
          exact w.2 i (by omega) (eq_of_beq e)
        · rw [wrap64_id (by omega) (by omega)]
          exact ih (i + 1) (by omega) (by omega) (fun h2 q hqi => by
            by_cases eq : q = i
            · subst eq; intro e2; exact e (beq_iff_eq.2 e2)
            · exact hq h2 q (by omega))
      · rw [decide_eq_false h, decide_eq_false (fun w : WSD s => h w.1)]
        exact Ev.to (hend _) (decide_eq_false h)
  unfold spec_WordSided.f
  exact key s.size 0 (by omega) (by omega) (fun _ q hq => by omega)
/-! ### spec_l6Dec -/
theorem spec_l6Dec_dig (n : Int) (h0 : 0 ≤ n) (h1 : n < 10) : Ev (fun k => spec_l6Dec.f k n) (strOfNums [48 + n]) := by
  refine Ev.step (fun k => by rw [spec_l6Dec.f]) ?_
  refine Ev.neg (by omega) ?_
  refine Ev.neg (by omega) ?_
  refine Ev.pos (by omega) ?_
  rw [wrap64_id (by omega) (by omega), Int.emod_eq_of_lt (by omega) (by omega)]
  exact Ev.const rfl
/-! ### spec_l1Same -/
theorem spec_l1Same_ev (n : Nat) (hn : n ≤ 4194304) : Ev (fun k => spec_l1Same.f k (n : Nat)) (idL n) := by
  have key : ∀ d i, n - i = d → i ≤ n → Ev (fun k => spec_l1Same.l0 k (n : Nat) (idL i) (i : Nat)) (idL n) := by
    intro d
    induction d with
    | zero =>
      intro i hd hi
      obtain rfl : i = n := by omega
      refine Ev.step (fun k => by rw [spec_l1Same.l0]) ?_
      exact Ev.neg (by omega) (Ev.const rfl)
    | succ d ih =>
      intro i hd hi
      refine Ev.step (fun k => by rw [spec_l1Same.l0]) (Ev.pos (by omega) (Ev.pos (by rw [idL_length]; omega) ?_))
      rw [wrap64_id (by omega) (by omega)]
      have := ih (i + 1) (by omega) (by omega)
      rw [show idL (i + 1) = idL i ++ [(i : Int)] by simp [idL, List.range_succ]] at this
      exact this
  unfold spec_l1Same.f
  exact key n 0 (by omega) (by omega)
/-! ### spec_l1Orbits -/
theorem spec_l1Orbits_step {n : Nat} {a b o : List Int} (ha : Pts n a) (hb : Pts n b) (h : OrbPre n a b o) {i : Nat} (hi : i < n) (x : Int)
    (hx : x = mn (rd o (i : Int)) (mn (rd o (fn a i : Int)) (rd o (fn b i : Int)))) :
    OrbPre n a b (((o.set i x).set (fn a i) x).set (fn b i) x) ∧
    (∀ q, q < n → rd (((o.set i x).set (fn a i) x).set (fn b i) x) (q : Int) ≤ rd o (q : Int)) ∧
    (∀ q, (q = i ∨ q = fn a i ∨ q = fn b i) → rd (((o.set i x).set (fn a i) x).set (fn b i) x) (q : Int) = x) := by
  have fa := (ha.fn hi).2
  have fb := (hb.fn hi).2
  have hl := h.1
  have gi := h.2 i hi
  have ga := h.2 _ fa
  have gb := h.2 _ fb
  have hx1 : x ≤ rd o (i : Int) ∧ x ≤ rd o (fn a i : Int) ∧ x ≤ rd o (fn b i : Int) := by rw [hx]; unfold mn; omega
  have hcx : Con n a b i x.toNat := by
    have : x = rd o (i : Int) ∨ x = rd o (fn a i : Int) ∨ x = rd o (fn b i : Int) := by rw [hx]; unfold mn; omega
    rcases this with e | e | e
    · rw [e]; exact gi.2.2
    · rw [e]; exact (Con.fa hi).trans ga.2.2
    · rw [e]; exact (Con.fb hi).trans gb.2.2
  have h0 : 0 ≤ x := by rw [hx]; unfold mn; omega
  have p1 := h.put hi x h0 (by omega) hcx
  have p2 := p1.put fa x h0 (by omega) ((Con.fa hi).symm.trans hcx)
  have p3 := p2.put fb x h0 (by omega) ((Con.fb hi).symm.trans hcx)
  have hval : ∀ q, q < n → rd (((o.set i x).set (fn a i) x).set (fn b i) x) (q : Int) = if q = i ∨ q = fn a i ∨ q = fn b i then x else rd o (q : Int) := by
    intro q hq
    by_cases e1 : fn b i = q
    · subst e1; rw [rd_set_self _ _ _ (by simp; omega), if_pos (.inr (.inr rfl))]
    · rw [rd_set_ne _ _ _ _ e1]
      by_cases e2 : fn a i = q
      · subst e2; rw [rd_set_self _ _ _ (by simp; omega), if_pos (.inr (.inl rfl))]
      · rw [rd_set_ne _ _ _ _ e2]
        by_cases e3 : i = q
        · subst e3; rw [rd_set_self _ _ _ (by omega), if_pos (.inl rfl)]
        · rw [rd_set_ne _ _ _ _ e3, if_neg (by omega)]
  refine ⟨p3, fun q hq => ?_, fun q hq => ?_⟩
  · rw [hval q hq]
    split
    · rename_i e
      rcases e with rfl | rfl | rfl <;> omega
    · exact Int.le_refl _
  · have hqn : q < n := by rcases hq with rfl | rfl | rfl <;> omega
    rw [hval q hqn, if_pos hq]
theorem spec_l1Orbits_ev (n : Nat) (hn : n ≤ 4194304) (a b : List Int) (ha : Pts n a) (hb : Pts n b) : Ev (fun k => spec_l1Orbits.f k a b) (orbL a b) := by
  have la := ha.1
  have lb := hb.1
  have inner : ∀ d i, n - i = d → i ≤ n → ∀ (o0 o : List Int) (t : Nat), OrbPre n a b o0 → OrbPre n a b o → (∀ q, q < n → rd o (q : Int) ≤ rd o0 (q : Int)) →
      (∀ q, q < i → (rd o (fn a q : Int) ≤ rd o0 (q : Int) ∧ rd o (q : Int) ≤ rd o0 (fn a q : Int)) ∧ (rd o (fn b q : Int) ≤ rd o0 (q : Int) ∧ rd o (q : Int) ≤ rd o0 (fn b q : Int))) →
      (∀ o', OrbPre n a b o' → Rounded n a b o0 o' → Ev (fun k => spec_l1Orbits.l0 k a b o' ((t : Int) + 1)) (orbL a b)) → t ≤ 4194304 →
      Ev (fun k => spec_l1Orbits.l1 k a b o (t : Nat) (i : Nat)) (orbL a b) := by
    intro d
    induction d with
    | zero =>
      intro i hd hi o0 o t h0 h hle hq hout ht
      obtain rfl : i = n := by omega
      refine Ev.step (fun k => by rw [spec_l1Orbits.l1]) ?_
      refine Ev.neg (by omega) ?_
      rw [wrap64_id (by omega) (by omega)]
      exact hout o h ⟨hle, hq⟩
    | succ d ih =>
      intro i hd hi o0 o t h0 h hle hq hout ht
      have hi' : i < n := by omega
      have ea := ha.fn hi'
      have eb := hb.fn hi'
      have lo := h.1
      refine Ev.step (fun k => by rw [spec_l1Orbits.l1]) ?_
      rw [ea.1, eb.1, wrap64_id (x := (i : Int) + 1) (by omega) (by omega)]
      simp only [toNat_nat]
      refine Ev.pos (by omega) (Ev.pos (by omega) (Ev.pos (by omega) (Ev.pos (by omega) (Ev.pos (by omega) (Ev.pos (by omega) (Ev.pos (by omega) (Ev.pos (by omega) ?_)))))))
      obtain ⟨s1, s2, s3⟩ := spec_l1Orbits_step ha hb h hi' _ rfl
      have hx : ∀ q, (q = i ∨ q = fn a i ∨ q = fn b i) → mn (rd o (i : Int)) (mn (rd o (fn a i : Int)) (rd o (fn b i : Int))) ≤ rd o (q : Int) := by
        intro q hq; rcases hq with rfl | rfl | rfl <;> (unfold mn; omega)
      refine ih (i + 1) (by omega) (by omega) o0 _ t h0 s1 (fun q hq => Int.le_trans (s2 q hq) (hle q hq)) (fun q hqi => ?_) hout ht
      by_cases e : q = i
      · subst e
        have l1 := hle q hi'
        have l2 := hle _ ea.2
        have l3 := hle _ eb.2
        have x1 := hx q (.inl rfl)
        have x2 := hx _ (.inr (.inl rfl))
        have x3 := hx _ (.inr (.inr rfl))
        rw [s3 q (.inl rfl), s3 _ (.inr (.inl rfl)), s3 _ (.inr (.inr rfl))]
        omega
      · obtain ⟨⟨q1, q2⟩, q3, q4⟩ := hq q (by omega)
        have m1 := s2 _ (ha.fn (show q < n by omega)).2
        have m2 := s2 _ (hb.fn (show q < n by omega)).2
        have m3 := s2 q (by omega)
        omega
  have outer : ∀ d t, n - t = d → t ≤ n → ∀ o : List Int, OrbPre n a b o → (t ≤ cntP (okB n a b o) n) → Ev (fun k => spec_l1Orbits.l0 k a b o (t : Nat)) (orbL a b) := by
    intro d
    induction d with
    | zero =>
      intro t hd ht o h hc
      obtain rfl : t = n := by omega
      refine Ev.step (fun k => by rw [spec_l1Orbits.l0]) ?_
      refine Ev.neg (by omega) (Ev.const ?_)
      rw [settled ha hb h (by have := cntP_le (okB t a b o) t; omega)]
    | succ d ih =>
      intro t hd ht o h hc
      refine Ev.step (fun k => by rw [spec_l1Orbits.l0]) ?_
      refine Ev.pos (by omega) ?_
      refine inner n 0 (by omega) (by omega) o o t h h (fun q _ => Int.le_refl _) (fun q hq => by omega) (fun o' h' hr => ?_) (by omega)
      have := ih (t + 1) (by omega) (by omega) o' h' ?_
      · exact this
      · rcases round_more ha hb h h' hr with e | e
        · have hm : cntP (okB n a b o) n ≤ cntP (okB n a b o') n := by
            refine cntP_mono _ _ n (fun i hi hk => ?_)
            unfold okB at *
            have h1 := of_decide_eq_true hk
            have h2 := hr.1 i hi
            have h3 := h'.low_le hi
            exact decide_eq_true (by omega)
          omega
        · omega
  unfold spec_l1Orbits.f
  rw [la]
  refine Ev.bind (spec_l1Same_ev n hn) ?_
  exact outer n 0 (by omega) (by omega) _ (OrbPre.start n a b) (by omega)
/-! ### spec_l8Corners -/
theorem spec_l8Corners_l1_ev (n : Nat) (hn : n ≤ 4194304) (o : List Int) (ho : o.length = n) : ∀ d i, n - i = d → i ≤ n →
    Ev (fun k => spec_l8Corners.l1 k (n : Nat) o (fixN o i : Nat) (i : Nat)) (fixN o n : Nat) := by
  intro d
  induction d with
  | zero =>
    intro i hd hi
    obtain rfl : i = n := by omega
    refine Ev.step (fun k => by rw [spec_l8Corners.l1]) ?_
    exact Ev.neg (by omega) (Ev.const rfl)
  | succ d ih =>
    intro i hd hi
    have hb := cntP_le (fun j => decide ((j : Int) = rd o (j : Int))) i
    have hb2 : fixN o i ≤ i := hb
    have := ih (i + 1) (by omega) (by omega)
    refine Ev.step (fun k => by rw [spec_l8Corners.l1]) (Ev.pos (by omega) (Ev.pos (by omega) (Ev.pos (by omega) ?_)))
    rw [wrap64_id (x := (i : Int) + 1) (by omega) (by omega)]
    refine Ev.ite (fun e => ?_) (fun e => ?_)
    · have e2 : fixN o (i + 1) = fixN o i + 1 := by
        unfold fixN; simp only [cntP]; rw [if_pos (decide_eq_true e.symm)]
      rw [e2] at this
      rw [wrap64_id (by omega) (by omega)]
      exact this
    · have e2 : fixN o (i + 1) = fixN o i := by
        unfold fixN; simp only [cntP]; rw [if_neg (fun h => e (of_decide_eq_true h).symm)]; rfl
      rw [e2] at this
      exact this
theorem spec_l8Corners_ev (s : ByteArray) (hw : WOK s) : Ev (fun k => spec_l8Corners.f k s) (corners s : Nat) := by
  have hz := hw.size
  have key : ∀ d i, s.size - i = d → i ≤ s.size → ∀ x4 x5 : List Int, x4.length = 2 * s.size → x5.length = 2 * s.size →
      (∀ q, q < i → rd x4 ((2 * q : Nat) : Int) = gluF s (2 * q) ∧ rd x4 ((2 * q + 1 : Nat) : Int) = gluF s (2 * q + 1)) →
      (∀ q, q < i → rd x5 ((2 * q + 1 : Nat) : Int) = folF s.size (2 * q + 1) ∧ rd x5 (((2 * q + 2) % (2 * s.size) : Nat) : Int) = folF s.size ((2 * q + 2) % (2 * s.size))) →
      Ev (fun k => spec_l8Corners.l0 k s (2 * s.size : Nat) x4 x5 (i : Nat)) (corners s : Nat) := by
    intro d
    induction d with
    | zero =>
      intro i hd hi x4 x5 h4 h5 hA hB
      obtain rfl : i = s.size := by omega
      refine Ev.step (fun k => by rw [spec_l8Corners.l0]) ?_
      refine Ev.neg (by omega) ?_
      obtain rfl : x4 = gluL s := known_two h4 (gluL_length s) (fun j hj => rd_gluL s j hj) hA
      obtain rfl : x5 = folL s := known_all h5 (folL_length s) (fun j hj => rd_folL s j hj) hB
      refine Ev.bind (spec_l1Orbits_ev (2 * s.size) (by omega) _ _ (gluL_pts hw) (folL_pts s)) ?_
      rw [orbL_swap (gluL_pts hw) (folL_pts s)]
      exact spec_l8Corners_l1_ev (2 * s.size) (by omega) _ (by rw [orbL_length, folL_length]) (2 * s.size) 0 (by omega) (by omega)
    | succ d ih =>
      intro i hd hi x4 x5 h4 h5 hA hB
      have hi' : i < s.size := by omega
      obtain ⟨p1, p2, p3, p4⟩ := par_spec hw hi'
      obtain ⟨m, hm, HMD, f0, f1, W3, W6⟩ := corner_nums s.size i hi' hz.2
      have HG := Aside0.mk (glu_at s i)
      have HW := Aside0.mk (cast_nums i (by omega))
      have HP := Aside0.mk (cast_nums (par s i) (by omega))
      refine Ev.step (fun k => by rw [spec_l8Corners.l0]) ?_
      rw [HW.out.1, HW.out.2.1, W3.out, HW.out.2.2.1]
      refine Ev.pos (by omega) ?_
      refine Ev.bind (spec_l8Partner_ev s (by omega) hw i hi') ?_
      refine Ev.pos (by omega) ?_
      refine Ev.bindc (spec_l8Small_eq _) ?_
      refine Ev.pos (by omega) ?_
      refine Ev.pos (by omega) ?_
      refine Ev.bindc (spec_l8Small_eq _) ?_
      rw [HP.out.1]
      simp only [toNat_nat]
      have go : ∀ a b : Nat, a = gluF s (2 * i) → b = gluF s (2 * i + 1) → Ev (fun k => spec_l8Corners.l0 k s (2 * s.size : Nat) ((x4.set (2 * i) (a : Int)).set (2 * i + 1) (b : Int)) ((x5.set (2 * i + 1) (m : Int)).set m ((2 * i + 1 : Nat) : Int)) ((i + 1 : Nat) : Int)) (corners s : Nat) := by
        intro a b ha hb
        refine ih (i + 1) (by omega) (by omega) _ _ (by simp [h4]) (by simp [h5]) (fun q hq => ?_) (fun q hq => ?_)
        · rw [ha, hb]
          by_cases e : q = i
          · subst e
            exact ⟨known_set (by simp; omega) (.inr (known_set (by omega) (.inl rfl))), known_set (by simp; omega) (.inl rfl)⟩
          · obtain ⟨a1, a2⟩ := hA q (by omega)
            exact ⟨known_set (by simp; omega) (.inr (known_set (by omega) (.inr a1))), known_set (by simp; omega) (.inr (known_set (by omega) (.inr a2)))⟩
        · have e1 : ((2 * i + 1 : Nat) : Int) = (folF s.size m : Int) := by rw [f1]
          have e0 : (m : Int) = (folF s.size (2 * i + 1) : Int) := by rw [f0]
          have hset : ∀ q, (q = 2 * i + 1 ∨ q = m ∨ rd x5 (q : Int) = folF s.size q) → rd ((x5.set (2 * i + 1) (m : Int)).set m ((2 * i + 1 : Nat) : Int)) (q : Int) = folF s.size q := by
            intro q hq
            rw [e1, e0]
            refine known_set (by simp; omega) ?_
            rcases hq with h | h | h
            · exact .inr (known_set (by omega) (.inl h))
            · exact .inl h
            · exact .inr (known_set (by omega) (.inr h))
          by_cases e : q = i
          · subst e
            exact ⟨hset _ (.inl rfl), hset _ (.inr (.inl HMD.out))⟩
          · obtain ⟨a1, a2⟩ := hB q (by omega)
            exact ⟨hset _ (.inr (.inr a1)), hset _ (.inr (.inr a2))⟩
      have n0 : ¬ ((2 * s.size : Nat) : Int) = 0 := by omega
      refine Ev.ite (fun e => ?_) (fun e => ?_)
      · have e' : ¬ wsm s i = wsm s (par s i) := bne_iff_ne.1 e
        obtain ⟨g0, g1⟩ := HG.out
        rw [if_neg e'] at g0 g1
        refine Ev.pos (by omega) ?_
        refine Ev.pos (by omega) ?_
        refine Ev.pos (by omega) ?_
        refine Ev.pos (by omega) ?_
        refine Ev.neg n0 ?_
        refine Ev.pos (by omega) ?_
        refine Ev.pos (by omega) ?_
        refine Ev.pos (by omega) ?_
        rw [HP.out.2.1, HP.out.2.2.2.2.1]
        exact go _ _ g0.symm g1.symm
      · have e' : wsm s i = wsm s (par s i) := by
          by_cases q : wsm s i = wsm s (par s i)
          · exact q
          · exact absurd (bne_iff_ne.2 q) e
        obtain ⟨g0, g1⟩ := HG.out
        rw [if_pos e'] at g0 g1
        refine Ev.pos (by omega) ?_
        refine Ev.pos (by omega) ?_
        refine Ev.pos (by omega) ?_
        refine Ev.pos (by omega) ?_
        refine Ev.neg n0 ?_
        refine Ev.pos (by omega) ?_
        refine Ev.pos (by omega) ?_
        refine Ev.pos (by omega) ?_
        rw [HP.out.2.2.2.1, HP.out.2.1, HP.out.2.2.2.2.2]
        exact go _ _ g0.symm g1.symm
  have W0 := Aside0.mk (cast_nums s.size (by omega)).1
  unfold spec_l8Corners.f
  rw [W0.out]
  refine Ev.pos (by omega) ?_
  refine Ev.pos (by omega) ?_
  exact key s.size 0 (by omega) (by omega) _ _ (by rw [List.length_replicate]; omega) (by rw [List.length_replicate]; omega) (fun q hq => by omega) (fun q hq => by omega)
/-! ### spec_WordNumber -/
theorem spec_WordNumber_ev (s : ByteArray) (hs : s.size ≤ 1048576) : Ev (fun k => spec_WordNumber.f k s) (if WOK s then (corners s : Int) - (s.size / 2 : Nat) + 1 else -100) := by
  unfold spec_WordNumber.f
  refine Ev.bind (spec_WordValid_ev s hs) ?_
  by_cases hw : WOK s
  · rw [if_pos hw]
    refine Ev.pos (decide_eq_true hw) (Ev.bind (spec_l8Corners_ev s hw) (Ev.const ?_))
    have hz := hw.size
    have hc : corners s ≤ 2 * s.size := cntP_le _ _
    rw [show ((s.size : Int) / 2) = ((s.size / 2 : Nat) : Int) from rfl, wrap64_id (x := ((s.size / 2 : Nat) : Int)) (by omega) (by omega), wrap64_id (x := (corners s : Int) - _) (by omega) (by omega), wrap64_id (by omega) (by omega)]
  · rw [if_neg hw]
    exact Ev.neg (by simp [hw]) (Ev.const rfl)
/-! ### spec_WordClass -/
theorem spec_WordClass_ev (s : ByteArray) (hs : s.size ≤ 1048576) : Ev (fun k => spec_WordClass.f k s) (if WOK s then clsS s else (⟨#[]⟩ : ByteArray)) := by
  have z1 : ∀ x : Int, (strOfNums [x]).size = 1 := fun x => strOfNums_size _
  unfold spec_WordClass.f
  refine Ev.bind (spec_WordValid_ev s hs) ?_
  by_cases hw : WOK s
  · have hn := nnW_lt hw
    have hnum := spec_WordNumber_ev s hs
    rw [if_pos hw] at hnum
    rw [if_pos hw]
    refine Ev.pos (decide_eq_true hw) ?_
    refine Ev.bind (spec_WordSided_ev s hs) ?_
    by_cases hs' : WSD s
    · refine Ev.pos (decide_eq_true hs') ?_
      refine Ev.bind hnum ?_
      rw [nnW_eq hw, wrap64_id (x := (nnW s : Int)) (by omega) (by omega), show Int.tdiv (nnW s : Int) 2 = ((nnW s / 2 : Nat) : Int) from (Int.ofNat_tdiv _ _).symm, wrap64_id (by omega) (by omega)]
      refine Ev.bind (spec_l6Dec_dig _ (by omega) (by omega)) ?_
      refine Ev.pos (by rw [z1]; omega) (Ev.const ?_)
      unfold clsS; rw [if_pos hs']
    · refine Ev.neg (by simp [hs']) ?_
      refine Ev.bind hnum ?_
      rw [nnW_eq hw, wrap64_id (x := (nnW s : Int)) (by omega) (by omega)]
      refine Ev.bind (spec_l6Dec_dig _ (by omega) (by omega)) ?_
      refine Ev.pos (by rw [z1]; omega) (Ev.const ?_)
      unfold clsS; rw [if_neg hs']
  · rw [if_neg hw]
    exact Ev.neg (by simp [hw]) (Ev.const rfl)
/-! ### The law -/
theorem impl_Execute_class (s c : ByteArray) (hs : s.size ≤ 200) (h10 : (10 : UInt8) ∉ s.data.toList) (h32 : (32 : UInt8) ∉ s.data.toList) (hc : Ev (fun k => impl_WordClass.f k s) c) (hne : c.toList.isEmpty = false) (hcs : c.size ≤ 1000) :
    Ev (fun k => impl_Execute.f k (((⟨#[99, 108, 97, 115, 115, 32]⟩ : ByteArray) ++ s) ++ (⟨#[10]⟩ : ByteArray))) ((c ++ ⟨#[10]⟩) ++ (⟨#[100, 97, 114, 116, 115, 32]⟩ ++ ⟨(Lib.decDigits 2).toArray⟩ ++ ⟨#[10]⟩)) := by
  have hl : XE.linesOf (((⟨#[99, 108, 97, 115, 115, 32]⟩ : ByteArray) ++ s) ++ (⟨#[10]⟩ : ByteArray)) = [(⟨#[99, 108, 97, 115, 115, 32]⟩ : ByteArray) ++ s, ⟨#[]⟩] := by
    refine xe_lines _ _ ?_
    have e : (((⟨#[99, 108, 97, 115, 115, 32]⟩ : ByteArray) ++ s) ++ (⟨#[10]⟩ : ByteArray)).data.toList = ([99, 108, 97, 115, 115, 32] ++ s.data.toList) ++ 10 :: [] := by simp
    rw [e, xs_split_hit 10 _ _ (by simp [h10]), xs_split_free 10 [] (by simp)]
    simp
  have hw : XE.wordsOf ((⟨#[99, 108, 97, 115, 115, 32]⟩ : ByteArray) ++ s) = [⟨#[99, 108, 97, 115, 115]⟩, s] := by
    refine xe_words _ _ ?_
    have e : ((⟨#[99, 108, 97, 115, 115, 32]⟩ : ByteArray) ++ s).data.toList = [99, 108, 97, 115, 115] ++ 32 :: s.data.toList := by simp
    rw [e, xs_split_hit 32 _ _ (by decide), xs_split_free 32 _ h32]
    rfl
  have z6 : (⟨#[99, 108, 97, 115, 115, 32]⟩ : ByteArray).size = 6 := rfl
  obtain ⟨n0, x0⟩ := impl_numberOf_ex (⟨#[99, 108, 97, 115, 115]⟩ : ByteArray)
  obtain ⟨n1, x1⟩ := impl_numberOf_ex s
  unfold impl_Execute.f
  refine Ev.pos (by rw [ByteArray.size_append, ByteArray.size_append, z6, show (⟨#[10]⟩ : ByteArray).size = 1 from rfl]; omega) ?_
  rw [hl]
  have hgo : Ev (fun k => XE.go (impl_Execute.cmdF k) [(⟨#[99, 108, 97, 115, 115, 32]⟩ : ByteArray) ++ s] [1, 0] [1, 0] ⟨#[]⟩) ([1, 0], [1, 0], c ++ ⟨#[10]⟩) := by
    refine Ev.congr (fun k => by rw [XE.go]) ?_
    refine Ev.pos (by rw [ByteArray.size_append, z6]; omega) ?_
    rw [hw]
    have hcmd : Ev (fun k => impl_Execute.cmdF k [1, 0] [1, 0] [(⟨#[99, 108, 97, 115, 115]⟩ : ByteArray), s]) (c, [1, 0], [1, 0]) := by
      refine Ev.congr (fun k => by rw [impl_Execute.cmdF]) ?_
      refine Ev.pos rfl ?_
      refine Ev.bind x0 (Ev.bind x1 (Ev.bind hc ?_))
      exact Ev.neg (by rw [hne]; decide) (Ev.const rfl)
    refine Ev.bind hcmd ?_
    exact Ev.pos (by show c.size ≤ 100000; omega) (Ev.const (by simp only [XE.go, xe_nil]))
  refine Ev.bind hgo ?_
  exact Ev.pos (by show 2 < 100; omega) (Ev.const rfl)
theorem ok_free {s : ByteArray} (hw : WOK s) (b : UInt8) (hb : slet (b.toNat : Int) < 0) : b ∉ s.data.toList := by
  intro hm
  obtain ⟨i, hi, e⟩ := List.getElem_of_mem hm
  have hi' : i < s.size := by simpa using hi
  have h1 := (hw.2 i hi').1
  unfold wl at h1
  rw [bt_nat s i hi'] at h1
  have e2 : s[i]'hi' = b := e
  rw [e2] at h1
  omega
theorem clsS_size (s : ByteArray) : (clsS s).size ≤ 1000 := by
  have z1 : ∀ x : Int, (strOfNums [x]).size = 1 := fun x => strOfNums_size _
  unfold clsS
  split
  · rw [ByteArray.size_append, z1]; decide
  · rw [ByteArray.size_append, z1]; decide
theorem FnExecuteClass : laws_FnExecuteClass.Pure := by
  intro l hm hl hwf
  refine Ev.rounds ?_
  unfold laws_FnExecuteClass.f
  refine Ev.ite (fun _ => Ev.const rfl) (fun _ => ?_)
  obtain ⟨s, h1, h2⟩ := spec_DrawWordClass_ex l (bytes_of_wf hwf)
  refine Ev.bind h1 ?_
  refine Ev.bind (impl_WordClass_ev s) ?_
  refine Ev.bind (spec_WordClass_ev s (by omega)) ?_
  refine Ev.pos rfl ?_
  refine Ev.step (fun k => by rw [laws_FnExecuteClass.j0]) ?_
  have hnil : ∀ a : ByteArray, (a.toList == ([] : List UInt8)) = decide (a = (⟨#[]⟩ : ByteArray)) := by
    intro a
    rw [← toList_beq a (⟨#[]⟩ : ByteArray), show (⟨#[]⟩ : ByteArray).toList = ([] : List UInt8) by rw [toList_data]]
  by_cases hw : WOK s
  · have hz := hw.size
    have hc := impl_WordClass_ev s
    rw [if_pos hw] at hc ⊢
    rw [hnil]
    refine Ev.neg (by simp [clsS_ne]) ?_
    have hcs := clsS_size s
    have hne : (clsS s).toList.isEmpty = false := by
      have := hnil (clsS s)
      rw [decide_eq_false (clsS_ne s)] at this
      cases h : (clsS s).toList with
      | nil => rw [h] at this; simp at this
      | cons a b => rfl
    have hx := impl_Execute_class s (clsS s) h2 (ok_free hw 10 (by decide)) (ok_free hw 32 (by decide)) hc hne hcs
    have he : (((⟨#[100, 97, 114, 116, 115, 32]⟩ ++ ⟨(Lib.decDigits 2).toArray⟩) ++ ⟨#[10]⟩ : ByteArray)).size ≤ 10 := by decide +kernel
    refine Ev.pos (by omega) (Ev.pos (by rw [ByteArray.size_append, show (⟨#[99, 108, 97, 115, 115, 32]⟩ : ByteArray).size = 6 from rfl]; omega) ?_)
    refine Ev.bind hx ?_
    refine Ev.pos (by omega) ?_
    refine Ev.bind (laws_endLine_ev 2 (by omega)) ?_
    refine Ev.pos (by rw [ByteArray.size_append, show (⟨#[10]⟩ : ByteArray).size = 1 from rfl]; omega) (Ev.const ?_)
    rw [beq_self_eq_true]
  · rw [if_neg hw, hnil]
    refine Ev.pos (by simp) ?_
    exact Ev.const (by rw [beq_self_eq_true])

end Go.Proofs.YtikkokflcgcnbaaGreatDoor.Pure
