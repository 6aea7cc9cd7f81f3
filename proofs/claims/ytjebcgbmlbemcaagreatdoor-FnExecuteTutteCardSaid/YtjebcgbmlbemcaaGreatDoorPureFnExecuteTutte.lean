/- The law FnExecuteTutte holds for every input. -/
import Derived.Test.YtjebcgbmlbemcaaGreatDoorPFnExecuteTuttex12
import Derived.Test.YtjebcgbmlbemcaaGreatDoorM0
import Derived.Test.YtjebcgbmlbemcaaGreatDoorMR
import Derived.Test.YtjebcgbmlbemcaaGreatDoorMO
import Derived.Test.YtjebcgbmlbemcaaGreatDoorMU
import Derived.Test.YtjebcgbmlbemcaaGreatDoorMD
import Derived.Test.YtjebcgbmlbemcaaGreatDoorMF
import Derived.Test.YtjebcgbmlbemcaaGreatDoorMTQ
import Derived.Test.YtjebcgbmlbemcaaGreatDoorML
import Derived.Test.YtjebcgbmlbemcaaGreatDoorMPT
import Derived.Test.YtjebcgbmlbemcaaGreatDoorMXS
set_option linter.unusedVariables false
set_option linter.unusedSimpArgs false
namespace Go.Proofs.YtjebcgbmlbemcaaGreatDoor.Pure
open Go.RowKit Go.Proofs.YtjebcgbmlbemcaaGreatDoor.PFnExecuteTutte Go.Proofs.YtjebcgbmlbemcaaGreatDoorW.PrintWords Go.Proofs.YtjebcgbmlbemcaaGreatDoorW.PrintLast Go.Proofs.YtjebcgbmlbemcaaGreatDoor.M

/-! ### spec_l6Open -/
theorem spec_l6Open_ex (l : List Int) (h : Bytes l) : ∃ m, spec_l6Open.f l = some (m, 0) ∧ Bytes m ∧ m.length ≤ 2000 := by
  unfold spec_l6Open.f
  by_cases h1 : (l.length : Int) > 2000
  · rw [if_pos h1, if_pos (by omega)]
    exact ⟨_, rfl, h.take 2000, by simp; omega⟩
  · rw [if_neg h1]
    exact ⟨_, rfl, h, by omega⟩
/-! ### spec_l6Rd_pick -/
theorem spec_l6Rd_pick_ex (l : List Int) (hb : Bytes l) (hn : l.length ≤ 2000) (p a : Int) (hp0 : 0 ≤ p) (hp1 : p ≤ 1099511627776) : ∃ x, Ev (fun k => spec_l6Rd_pick.f k l p a) (x, p + 1) ∧ 0 ≤ x ∧ (1 ≤ a → x < a) := by
  have hw : wrap64 (p + 1) = p + 1 := wrap64_id (by omega) (by omega)
  have ht : Ev (fun k => spec_l6Rd_pick.j0 k a true l (p + 1)) (0, p + 1) := by
    refine Ev.step (fun k => by rw [spec_l6Rd_pick.j0]) ?_
    exact Ev.pos rfl (Ev.const rfl)
  by_cases ha : a < 1
  · refine ⟨0, ?_, Int.le_refl _, fun h => by omega⟩
    unfold spec_l6Rd_pick.f
    rw [hw]
    exact Ev.pos ha ht
  · by_cases hl : (l.length : Int) = 0
    · refine ⟨0, ?_, Int.le_refl _, fun h => by omega⟩
      unfold spec_l6Rd_pick.f
      rw [hw]
      refine Ev.neg ha ?_
      rw [show ((l.length : Int) == 0) = true from beq_iff_eq.2 hl]
      exact ht
    · have hw2 : wrap64 (p + 1 - 1) = p := by rw [wrap64_id (by omega) (by omega)]; omega
      by_cases hlt : p < l.length
      · obtain ⟨b0, b1⟩ := hb.at p hp0 hlt
        have hx := tmod_bd (rd l p) a b0 (by omega)
        refine ⟨Int.tmod (rd l p) a, ?_, hx.1, fun _ => hx.2⟩
        unfold spec_l6Rd_pick.f
        rw [hw, show ((l.length : Int) == 0) = false from beq_eq_false_iff_ne.2 hl]
        refine Ev.neg ha ?_
        refine Ev.step (fun k => by rw [spec_l6Rd_pick.j0]) ?_
        rw [hw2, wrap64_id (x := rd l p) (by omega) (by omega)]
        refine Ev.neg (by simp) ?_
        refine Ev.pos hlt ?_
        refine Ev.pos hp0 ?_
        refine Ev.neg (by omega) ?_
        exact Ev.const rfl
      · obtain ⟨m0, m1⟩ := tmod_bd p (l.length : Int) hp0 (by omega)
        have e1 : wrap64 (p * 7) = p * 7 := wrap64_id (by omega) (by omega)
        have e2 : wrap64 (p * 7 + 3) = p * 7 + 3 := wrap64_id (by omega) (by omega)
        obtain ⟨n0, n1⟩ := tmod_bd (p * 7 + 3) (l.length : Int) (by omega) (by omega)
        have d0 : 0 ≤ Int.tdiv p (l.length : Int) := Int.tdiv_nonneg hp0 (by omega)
        have d1 : Int.tdiv p (l.length : Int) ≤ p := by
          rw [Int.tdiv_eq_ediv_of_nonneg hp0]; exact Int.ediv_le_self _ hp0
        obtain ⟨b0, b1⟩ := hb.at _ m0 m1
        obtain ⟨c0, c1⟩ := hb.at _ n0 n1
        suffices hs : ∃ x, Ev (fun k => spec_l6Rd_pick.j0 k a false l (p + 1)) (x, p + 1) ∧ 0 ≤ x ∧ (1 ≤ a → x < a) by
          obtain ⟨x, h1, h2⟩ := hs
          refine ⟨x, ?_, h2⟩
          unfold spec_l6Rd_pick.f
          rw [hw, show ((l.length : Int) == 0) = false from beq_eq_false_iff_ne.2 hl]
          exact Ev.neg ha h1
        have hun : ∀ r, (∃ x, Ev (fun _ : Nat => r) (x, p + 1) ∧ 0 ≤ x ∧ (1 ≤ a → x < a)) →
            (∀ k, spec_l6Rd_pick.j0 (k + 1) a false l (p + 1) = r) → ∃ x, Ev (fun k => spec_l6Rd_pick.j0 k a false l (p + 1)) (x, p + 1) ∧ 0 ≤ x ∧ (1 ≤ a → x < a) := by
          rintro r ⟨x, h1, h2⟩ h3
          exact ⟨x, Ev.step h3 h1, h2⟩
        refine hun _ ?_ (fun k => by
          rw [spec_l6Rd_pick.j0, if_neg (by simp), hw2, if_neg hlt, if_neg hl, if_pos m0, if_pos m1, e1, e2, if_pos n0, if_pos n1, if_neg (by omega)])
        generalize rd l (Int.tmod p (l.length : Int)) = u at *
        generalize rd l (Int.tmod (p * 7 + 3) (l.length : Int)) = v at *
        generalize Int.tdiv p (l.length : Int) = w at *
        rw [wrap64_id (x := u) (by omega) (by omega), wrap64_id (x := v) (by omega) (by omega), wrap64_id (x := w) (by omega) (by omega),
          wrap64_id (x := u * 131) (by omega) (by omega), wrap64_id (x := v * 1117) (by omega) (by omega), wrap64_id (x := p * 29) (by omega) (by omega), wrap64_id (x := w * 53) (by omega) (by omega),
          wrap64_id (x := u * 131 + v * 1117) (by omega) (by omega), wrap64_id (x := u * 131 + v * 1117 + p * 29) (by omega) (by omega), wrap64_id (x := u * 131 + v * 1117 + p * 29 + w * 53) (by omega) (by omega)]
        have hX0 : 0 ≤ u * 131 + v * 1117 + p * 29 + w * 53 := by omega
        have hX1 : u * 131 + v * 1117 + p * 29 + w * 53 < 4611686018427387904 := by omega
        generalize u * 131 + v * 1117 + p * 29 + w * 53 = X at *
        have hq : Int.tdiv X 64 = X / 64 := Int.tdiv_eq_ediv_of_nonneg hX0
        rw [hq, wrap64_id (x := X / 64) (by omega) (by omega)]
        have hxor := xor_nonneg X (X / 64) hX0 (by omega) hX1 (by omega)
        obtain ⟨r0, r1⟩ := tmod_bd _ a hxor (by omega)
        exact ⟨_, Ev.const rfl, r0, fun _ => r1⟩
/-! ### spec_l1Same -/
theorem spec_l1Same_ev (n : Nat) (hn : n ≤ 4194304) : Ev (fun k => spec_l1Same.f k (n : Nat)) (idL n) := by
  have key : ∀ d i, n - i = d → i ≤ n → Ev (fun k => spec_l1Same.l0 k (n : Nat) (idL i) (i : Nat)) (idL n) := by
    intro d
    induction d with
    | zero =>
      intro i hd hi
      obtain rfl : i = n := by omega
      refine Ev.step (fun k => by rw [spec_l1Same.l0]) ?_
      exact Ev.neg (by omega) (Ev.const rfl)
    | succ d ih =>
      intro i hd hi
      refine Ev.step (fun k => by rw [spec_l1Same.l0]) (Ev.pos (by omega) (Ev.pos (by rw [idL_length]; omega) ?_))
      rw [wrap64_id (by omega) (by omega)]
      have := ih (i + 1) (by omega) (by omega)
      rw [show idL (i + 1) = idL i ++ [(i : Int)] by simp [idL, List.range_succ]] at this
      exact this
  unfold spec_l1Same.f
  exact key n 0 (by omega) (by omega)
/-! ### spec_l1Orbits -/
theorem spec_l1Orbits_step {n : Nat} {a b o : List Int} (ha : Pts n a) (hb : Pts n b) (h : OrbPre n a b o) {i : Nat} (hi : i < n) (x : Int)
    (hx : x = mn (rd o (i : Int)) (mn (rd o (fn a i : Int)) (rd o (fn b i : Int)))) :
    OrbPre n a b (((o.set i x).set (fn a i) x).set (fn b i) x) ∧
    (∀ q, q < n → rd (((o.set i x).set (fn a i) x).set (fn b i) x) (q : Int) ≤ rd o (q : Int)) ∧
    (∀ q, (q = i ∨ q = fn a i ∨ q = fn b i) → rd (((o.set i x).set (fn a i) x).set (fn b i) x) (q : Int) = x) := by
  have fa := (ha.fn hi).2
  have fb := (hb.fn hi).2
  have hl := h.1
  have gi := h.2 i hi
  have ga := h.2 _ fa
  have gb := h.2 _ fb
  have hx1 : x ≤ rd o (i : Int) ∧ x ≤ rd o (fn a i : Int) ∧ x ≤ rd o (fn b i : Int) := by rw [hx]; unfold mn; omega
  have hcx : Con n a b i x.toNat := by
    have : x = rd o (i : Int) ∨ x = rd o (fn a i : Int) ∨ x = rd o (fn b i : Int) := by rw [hx]; unfold mn; omega
    rcases this with e | e | e
    · rw [e]; exact gi.2.2
    · rw [e]; exact (Con.fa hi).trans ga.2.2
    · rw [e]; exact (Con.fb hi).trans gb.2.2
  have h0 : 0 ≤ x := by rw [hx]; unfold mn; omega
  have p1 := h.put hi x h0 (by omega) hcx
  have p2 := p1.put fa x h0 (by omega) ((Con.fa hi).symm.trans hcx)
  have p3 := p2.put fb x h0 (by omega) ((Con.fb hi).symm.trans hcx)
  have hval : ∀ q, q < n → rd (((o.set i x).set (fn a i) x).set (fn b i) x) (q : Int) = if q = i ∨ q = fn a i ∨ q = fn b i then x else rd o (q : Int) := by
    intro q hq
    by_cases e1 : fn b i = q
    · subst e1; rw [rd_set_self _ _ _ (by simp; omega), if_pos (.inr (.inr rfl))]
    · rw [rd_set_ne _ _ _ _ e1]
      by_cases e2 : fn a i = q
      · subst e2; rw [rd_set_self _ _ _ (by simp; omega), if_pos (.inr (.inl rfl))]
      · rw [rd_set_ne _ _ _ _ e2]
        by_cases e3 : i = q
        · subst e3; rw [rd_set_self _ _ _ (by omega), if_pos (.inl rfl)]
        · rw [rd_set_ne _ _ _ _ e3, if_neg (by omega)]
  refine ⟨p3, fun q hq => ?_, fun q hq => ?_⟩
  · rw [hval q hq]
    split
    · rename_i e
      rcases e with rfl | rfl | rfl <;> omega
    · exact Int.le_refl _
  · have hqn : q < n := by rcases hq with rfl | rfl | rfl <;> omega
    rw [hval q hqn, if_pos hq]
theorem spec_l1Orbits_ev (n : Nat) (hn : n ≤ 4194304) (a b : List Int) (ha : Pts n a) (hb : Pts n b) : Ev (fun k => spec_l1Orbits.f k a b) (orbL a b) := by
  have la := ha.1
  have lb := hb.1
  have inner : ∀ d i, n - i = d → i ≤ n → ∀ (o0 o : List Int) (t : Nat), OrbPre n a b o0 → OrbPre n a b o → (∀ q, q < n → rd o (q : Int) ≤ rd o0 (q : Int)) →
      (∀ q, q < i → (rd o (fn a q : Int) ≤ rd o0 (q : Int) ∧ rd o (q : Int) ≤ rd o0 (fn a q : Int)) ∧ (rd o (fn b q : Int) ≤ rd o0 (q : Int) ∧ rd o (q : Int) ≤ rd o0 (fn b q : Int))) →
      (∀ o', OrbPre n a b o' → Rounded n a b o0 o' → Ev (fun k => spec_l1Orbits.l0 k a b o' ((t : Int) + 1)) (orbL a b)) → t ≤ 4194304 →
      Ev (fun k => spec_l1Orbits.l1 k a b o (t : Nat) (i : Nat)) (orbL a b) := by
    intro d
    induction d with
    | zero =>
      intro i hd hi o0 o t h0 h hle hq hout ht
      obtain rfl : i = n := by omega
      refine Ev.step (fun k => by rw [spec_l1Orbits.l1]) ?_
      refine Ev.neg (by omega) ?_
      rw [wrap64_id (by omega) (by omega)]
      exact hout o h ⟨hle, hq⟩
    | succ d ih =>
      intro i hd hi o0 o t h0 h hle hq hout ht
      have hi' : i < n := by omega
      have ea := ha.fn hi'
      have eb := hb.fn hi'
      have lo := h.1
      refine Ev.step (fun k => by rw [spec_l1Orbits.l1]) ?_
      rw [ea.1, eb.1, wrap64_id (x := (i : Int) + 1) (by omega) (by omega)]
      simp only [toNat_nat]
      refine Ev.pos (by omega) (Ev.pos (by omega) (Ev.pos (by omega) (Ev.pos (by omega) (Ev.pos (by omega) (Ev.pos (by omega) (Ev.pos (by omega) (Ev.pos (by omega) ?_)))))))
      obtain ⟨s1, s2, s3⟩ := spec_l1Orbits_step ha hb h hi' _ rfl
      have hx : ∀ q, (q = i ∨ q = fn a i ∨ q = fn b i) → mn (rd o (i : Int)) (mn (rd o (fn a i : Int)) (rd o (fn b i : Int))) ≤ rd o (q : Int) := by
        intro q hq; rcases hq with rfl | rfl | rfl <;> (unfold mn; omega)
      refine ih (i + 1) (by omega) (by omega) o0 _ t h0 s1 (fun q hq => Int.le_trans (s2 q hq) (hle q hq)) (fun q hqi => ?_) hout ht
      by_cases e : q = i
      · subst e
        have l1 := hle q hi'
        have l2 := hle _ ea.2
        have l3 := hle _ eb.2
        have x1 := hx q (.inl rfl)
        have x2 := hx _ (.inr (.inl rfl))
        have x3 := hx _ (.inr (.inr rfl))
        rw [s3 q (.inl rfl), s3 _ (.inr (.inl rfl)), s3 _ (.inr (.inr rfl))]
        omega
      · obtain ⟨⟨q1, q2⟩, q3, q4⟩ := hq q (by omega)
        have m1 := s2 _ (ha.fn (show q < n by omega)).2
        have m2 := s2 _ (hb.fn (show q < n by omega)).2
        have m3 := s2 q (by omega)
        omega
  have outer : ∀ d t, n - t = d → t ≤ n → ∀ o : List Int, OrbPre n a b o → (t ≤ cntP (okB n a b o) n) → Ev (fun k => spec_l1Orbits.l0 k a b o (t : Nat)) (orbL a b) := by
    intro d
    induction d with
    | zero =>
      intro t hd ht o h hc
      obtain rfl : t = n := by omega
      refine Ev.step (fun k => by rw [spec_l1Orbits.l0]) ?_
      refine Ev.neg (by omega) (Ev.const ?_)
      rw [settled ha hb h (by have := cntP_le (okB t a b o) t; omega)]
    | succ d ih =>
      intro t hd ht o h hc
      refine Ev.step (fun k => by rw [spec_l1Orbits.l0]) ?_
      refine Ev.pos (by omega) ?_
      refine inner n 0 (by omega) (by omega) o o t h h (fun q _ => Int.le_refl _) (fun q hq => by omega) (fun o' h' hr => ?_) (by omega)
      have := ih (t + 1) (by omega) (by omega) o' h' ?_
      · exact this
      · rcases round_more ha hb h h' hr with e | e
        · have hm : cntP (okB n a b o) n ≤ cntP (okB n a b o') n := by
            refine cntP_mono _ _ n (fun i hi hk => ?_)
            unfold okB at *
            have h1 := of_decide_eq_true hk
            have h2 := hr.1 i hi
            have h3 := h'.low_le hi
            exact decide_eq_true (by omega)
          omega
        · omega
  unfold spec_l1Orbits.f
  rw [la]
  refine Ev.bind (spec_l1Same_ev n hn) ?_
  exact outer n 0 (by omega) (by omega) _ (OrbPre.start n a b) (by omega)
/-! ### spec_l6In -/
theorem spec_l6In_eq (a b c : Int) : spec_l6In.f a b c = some (decide (b ≤ a ∧ a ≤ c)) := by
  unfold spec_l6In.f
  by_cases h : a ≥ b
  · rw [if_pos h]
    congr 1
    rw [decide_eq_decide]
    omega
  · rw [if_neg h, decide_eq_false (by omega)]
/-! ### spec_PermValid -/
theorem spec_PermValid_ev (p : List Int) (hl : p.length ≤ 1048576) : Ev (fun k => spec_PermValid.f k p) (dec (POK p)) := by
  have key : ∀ d i, p.length - i = d → i ≤ p.length → (∀ a, a < i → 0 ≤ rd p (a : Int) ∧ rd p (a : Int) < p.length) → (∀ a b, a < i → b < a → rd p (b : Int) ≠ rd p (a : Int)) → Ev (fun k => spec_PermValid.l0 k p (i : Nat)) (dec (POK p)) := by
    intro d
    induction d with
    | zero =>
      intro i hd hi h1 h2
      obtain rfl : i = p.length := by omega
      have hp : PermL p.length p := ⟨⟨rfl, h1⟩, fun i j hi hj e => by
        have e1 := h1 i hi
        have e2 := h1 j hj
        unfold fn at e
        rcases Nat.lt_trichotomy i j with q | q | q
        · exact absurd (by omega) (h2 j i hj q)
        · exact q
        · exact absurd (by omega) (h2 i j hi q)⟩
      refine Ev.step (fun k => by rw [spec_PermValid.l0]) ?_
      refine Ev.neg (by omega) (Ev.bindc (spec_l6In_eq _ _ _) (Ev.const ?_))
      congr 1
      exact dec_of ⟨fun q => ⟨by omega, hp⟩, fun q => by have := q.1; omega⟩
    | succ d ih =>
      intro i hd hi h1 h2
      have hi' : i < p.length := by omega
      have inner : ∀ e j, i - j = e → j ≤ i → (0 ≤ rd p (i : Int) ∧ rd p (i : Int) < p.length) → (∀ b, b < j → rd p (b : Int) ≠ rd p (i : Int)) → Ev (fun k => spec_PermValid.l1 k p (i : Nat) (j : Nat)) (dec (POK p)) := by
        intro e
        induction e with
        | zero =>
          intro j he hj hr hb
          obtain rfl : j = i := by omega
          refine Ev.step (fun k => by rw [spec_PermValid.l1]) ?_
          refine Ev.neg (by omega) ?_
          rw [wrap64_id (x := (j : Int) + 1) (by omega) (by omega)]
          refine ih (j + 1) (by omega) (by omega) (fun a ha => ?_) (fun a b ha hba => ?_)
          · by_cases q : a = j
            · subst q; exact hr
            · exact h1 a (by omega)
          · by_cases q : a = j
            · subst q; exact hb b hba
            · exact h2 a b (by omega) hba
        | succ e ihe =>
          intro j he hj hr hb
          refine Ev.step (fun k => by rw [spec_PermValid.l1]) ?_
          rw [wrap64_id (x := (j : Int) + 1) (by omega) (by omega)]
          refine Ev.pos (by omega) (Ev.pos (by omega) (Ev.pos (by omega) (Ev.pos (by omega) (Ev.pos (by omega) ?_))))
          refine Ev.ite (fun q => ?_) (fun q => ?_)
          · rw [dec_f]
            · exact Ev.const rfl
            · intro w
              have := w.2.2 j i (by omega) hi' (by unfold fn; rw [q])
              omega
          · refine ihe (j + 1) (by omega) (by omega) hr (fun b hbj => ?_)
            by_cases z : b = j
            · subst z; exact q
            · exact hb b (by omega)
      refine Ev.step (fun k => by rw [spec_PermValid.l0]) ?_
      rw [wrap64_id (x := (p.length : Int) - 1) (by omega) (by omega)]
      refine Ev.pos (by omega) (Ev.pos (by omega) (Ev.bindc (spec_l6In_eq _ _ _) ?_))
      refine Ev.ite (fun q => ?_) (fun q => ?_)
      · have q' := of_decide_eq_true q
        exact inner i 0 (by omega) (by omega) ⟨by omega, by omega⟩ (fun b hb => by omega)
      · rw [dec_f]
        · exact Ev.const rfl
        · intro w
          have := w.2.1.2 i hi'
          exact q (decide_eq_true ⟨by omega, by omega⟩)
  unfold spec_PermValid.f
  exact key p.length 0 (by omega) (by omega) (fun a ha => by omega) (fun a b ha => by omega)
/-! ### spec_l1Both -/
theorem spec_l1Both_ev (a b : List Int) (ha : a.length ≤ 1048576) (hb : b.length ≤ 1048576) : Ev (fun k => spec_l1Both.f k a b) (dec (POK a ∧ POK b ∧ a.length = b.length)) := by
  unfold spec_l1Both.f
  refine Ev.bind (spec_PermValid_ev a ha) ?_
  refine Ev.ite (fun h1 => ?_) (fun h1 => ?_)
  · refine Ev.bind (spec_PermValid_ev b hb) ?_
    refine Ev.ite (fun h2 => Ev.const ?_) (fun h2 => ?_)
    · congr 1
      have a1 := dec_iff.1 h1
      have a2 := dec_iff.1 h2
      by_cases e : a.length = b.length
      · rw [dec_t ⟨a1, a2, e⟩, e]; exact beq_self_eq_true _
      · rw [dec_f (fun w => e w.2.2)]; exact beq_eq_false_iff_ne.2 (by omega)
    · rw [dec_f (fun w => h2 (dec_t w.2.1))]; exact Ev.const rfl
  · rw [dec_f (fun w => h1 (dec_t w.1))]; exact Ev.const rfl
/-! ### spec_MapValid -/
theorem spec_MapValid_ev (t f : List Int) (ht : t.length ≤ 1048576) (hf : f.length ≤ 1048576) : Ev (fun k => spec_MapValid.f k t f) (dec (MOK t f)) := by
  unfold spec_MapValid.f
  refine Ev.bind (spec_l1Both_ev t f ht hf) ?_
  refine Ev.ite (fun h1 => ?_) (fun h1 => ?_)
  · obtain ⟨a1, a2, hl⟩ := dec_iff.1 h1
    have ft := a2.2.1
    have tt := a1.2.1
    rw [hl] at tt
    have hz := a1.1
    have ho := (orbL_isOrb tt ft)
    have hol := ho.1.1
    have last : (∀ q, q < f.length → fn f q ≠ q ∧ fn f (fn f q) = q) → ∀ d i, f.length - i = d → i ≤ f.length → (∀ q, q < i → rd (orbL t f) (q : Int) = 0) → Ev (fun k => spec_MapValid.l1 k (orbL t f) (i : Nat)) (dec (MOK t f)) := by
      intro hq d
      induction d with
      | zero =>
        intro i hd hi h0
        refine Ev.step (fun k => by rw [spec_MapValid.l1]) ?_
        refine Ev.neg (by omega) ?_
        rw [dec_t]
        · exact Ev.const rfl
        · exact ⟨a1, a2, hl, hq, fun i hi => h0 i (by omega)⟩
      | succ d ih =>
        intro i hd hi h0
        refine Ev.step (fun k => by rw [spec_MapValid.l1]) ?_
        rw [wrap64_id (x := (i : Int) + 1) (by omega) (by omega)]
        refine Ev.pos (by omega) (Ev.pos (by omega) (Ev.ite (fun q => ?_) (fun q => ?_)))
        · refine ih (i + 1) (by omega) (by omega) (fun z hz => ?_)
          by_cases e : z = i
          · subst e; exact q
          · exact h0 z (by omega)
        · rw [dec_f (fun w => q (w.2.2.2.2 i (by omega)))]; exact Ev.const rfl
    have key : ∀ d i, f.length - i = d → i ≤ f.length → (∀ q, q < i → fn f q ≠ q ∧ fn f (fn f q) = q) → Ev (fun k => spec_MapValid.l0 k (i : Nat) t f) (dec (MOK t f)) := by
      intro d
      induction d with
      | zero =>
        intro i hd hi hq
        obtain rfl : i = f.length := by omega
        refine Ev.step (fun k => by rw [spec_MapValid.l0]) ?_
        refine Ev.neg (by omega) ?_
        refine Ev.bind (spec_l1Orbits_ev f.length (by omega) t f tt ft) ?_
        exact last hq f.length 0 (by omega) (by omega) (fun q hq => by omega)
      | succ d ih =>
        intro i hd hi hq
        have hi' : i < f.length := by omega
        have e1 := ft.fn hi'
        have e2 := ft.fn e1.2
        refine Ev.step (fun k => by rw [spec_MapValid.l0]) ?_
        rw [e1.1, e2.1, wrap64_id (x := (i : Int) + 1) (by omega) (by omega)]
        refine Ev.pos (by omega) (Ev.pos (by omega) ?_)
        refine Ev.ite (fun n1 => ?_) (fun n1 => ?_)
        · rw [dec_f (fun w => (w.2.2.2.1 i hi').1 (by omega))]; exact Ev.const rfl
        refine Ev.pos (by omega) (Ev.pos (by omega) ?_)
        refine Ev.ite (fun n2 => ?_) (fun n2 => ?_)
        · refine ih (i + 1) (by omega) (by omega) (fun q hqi => ?_)
          by_cases e : q = i
          · subst e; exact ⟨by omega, by omega⟩
          · exact hq q (by omega)
        · rw [dec_f (fun w => n2 (by have := (w.2.2.2.1 i hi').2; omega))]; exact Ev.const rfl
    exact key f.length 0 (by omega) (by omega) (fun q hq => by omega)
  · rw [dec_f (fun w => h1 (dec_t ⟨w.1, w.2.1, w.2.2.1⟩))]; exact Ev.const rfl
/-! ### spec_l91Perm -/
/-- What the draw of a permutation has made after i points. -/
def PermPre (i : Nat) (x : List Int) : Prop := x.length = i ∧ (∀ a : Nat, a < i → 0 ≤ rd x (a : Int) ∧ rd x (a : Int) < i) ∧ ∀ a b : Nat, a < i → b < i → rd x (a : Int) = rd x (b : Int) → a = b
theorem PermPre.perm {n : Nat} {x : List Int} (h : PermPre n x) : PermL n x := ⟨⟨h.1, h.2.1⟩, fun i j hi hj e => by
  have h1 := h.2.1 i hi
  have h2 := h.2.1 j hj
  unfold fn at e
  exact h.2.2 i j hi hj (by omega)⟩
theorem rd_snoc_lt (x : List Int) (v : Int) (a : Nat) (h : a < x.length) : rd (x ++ [v]) (a : Int) = rd x (a : Int) := by
  rw [rd_nat _ _ (by rw [List.length_append]; omega), rd_nat _ _ h, List.getElem_append_left h]
theorem rd_snoc_eq (x : List Int) (v : Int) : rd (x ++ [v]) (x.length : Int) = v := by
  rw [rd_nat _ _ (by simp)]; simp
theorem PermPre.last {i : Nat} {x : List Int} (h : PermPre i x) : PermPre (i + 1) (x ++ [(i : Int)]) := by
  obtain ⟨h1, h2, h3⟩ := h
  have hi : rd (x ++ [(i : Int)]) (i : Int) = (i : Int) := by have := rd_snoc_eq x (i : Int); rwa [h1] at this
  have hlt : ∀ a : Nat, a < i → rd (x ++ [(i : Int)]) (a : Int) = rd x (a : Int) := fun a ha => rd_snoc_lt x _ a (by omega)
  refine ⟨by simp [h1], fun a ha => ?_, fun a b ha hb e => ?_⟩
  · by_cases q : a = i
    · subst q; rw [hi]; omega
    · rw [hlt a (by omega)]; have := h2 a (by omega); omega
  · by_cases q : a = i
    · by_cases q' : b = i
      · omega
      · subst q; rw [hi, hlt b (by omega)] at e; have := h2 b (by omega); omega
    · by_cases q' : b = i
      · subst q'; rw [hi, hlt a (by omega)] at e; have := h2 a (by omega); omega
      · rw [hlt a (by omega), hlt b (by omega)] at e
        exact h3 a b (by omega) (by omega) e
theorem PermPre.swap {i k : Nat} {x : List Int} (h : PermPre i x) (hk : k < i) : PermPre (i + 1) ((x ++ [rd x (k : Int)]).set k (i : Int)) := by
  obtain ⟨h1, h2, h3⟩ := h
  have hl : (x ++ [rd x (k : Int)]).length = i + 1 := by simp [h1]
  have e1 : rd ((x ++ [rd x (k : Int)]).set k (i : Int)) (k : Int) = (i : Int) := rd_set_self _ _ _ (by omega)
  have e2 : rd ((x ++ [rd x (k : Int)]).set k (i : Int)) (i : Int) = rd x (k : Int) := by
    rw [rd_set_ne _ _ _ _ (by omega)]
    have := rd_snoc_eq x (rd x (k : Int)); rwa [h1] at this
  have e3 : ∀ a : Nat, a < i → a ≠ k → rd ((x ++ [rd x (k : Int)]).set k (i : Int)) (a : Int) = rd x (a : Int) := fun a ha hne => by
    rw [rd_set_ne _ _ _ _ (Ne.symm hne), rd_snoc_lt x _ a (by omega)]
  have vk := h2 k hk
  refine ⟨by simp [h1], fun a ha => ?_, fun a b ha hb e => ?_⟩
  · by_cases q : a = k
    · subst q; rw [e1]; omega
    · by_cases q' : a = i
      · subst q'; rw [e2]; omega
      · rw [e3 a (by omega) q]; have := h2 a (by omega); omega
  · have val : ∀ a : Nat, a < i + 1 → (a = k ∧ rd ((x ++ [rd x (k : Int)]).set k (i : Int)) (a : Int) = (i : Int)) ∨ (a = i ∧ rd ((x ++ [rd x (k : Int)]).set k (i : Int)) (a : Int) = rd x (k : Int)) ∨ (a < i ∧ a ≠ k ∧ rd ((x ++ [rd x (k : Int)]).set k (i : Int)) (a : Int) = rd x (a : Int)) := by
      intro a ha
      by_cases q : a = k
      · left; exact ⟨q, by rw [q]; exact e1⟩
      · by_cases q' : a = i
        · right; left; exact ⟨q', by rw [q']; exact e2⟩
        · right; right; exact ⟨by omega, q, e3 a (by omega) q⟩
    rcases val a ha with ⟨p1, p2⟩ | ⟨p1, p2⟩ | ⟨p1, p3, p2⟩ <;> rcases val b hb with ⟨q1, q2⟩ | ⟨q1, q2⟩ | ⟨q1, q3, q2⟩
    · omega
    · rw [p2, q2] at e; omega
    · rw [p2, q2] at e; have := h2 b q1; omega
    · rw [p2, q2] at e; omega
    · omega
    · rw [p2, q2] at e; exact absurd (h3 k b hk q1 e).symm q3
    · rw [p2, q2] at e; have := h2 a p1; omega
    · rw [p2, q2] at e; exact absurd (h3 a k p1 hk e) p3
    · rw [p2, q2] at e; exact h3 a b p1 q1 e
theorem spec_l91Perm_ex (l : List Int) (hb : Bytes l) (hn : l.length ≤ 2000) (p : Int) (n : Nat) (hN : n ≤ 100) (hp0 : 0 ≤ p) (hp1 : p ≤ 1000000) : ∃ x q, Ev (fun k => spec_l91Perm.f k l p (n : Nat)) (x, q) ∧ PermL n x ∧ p ≤ q ∧ q ≤ p + 100 := by
  have key : ∀ d i : Nat, n - i = d → i ≤ n → ∀ x : List Int, PermPre i x → ∀ q : Int, p ≤ q → q ≤ p + i → ∃ x' q', Ev (fun k => spec_l91Perm.l0 k (n : Nat) x (i : Nat) l q) (x', q') ∧ PermL n x' ∧ p ≤ q' ∧ q' ≤ p + 100 := by
    intro d
    induction d with
    | zero =>
      intro i hd hi x hx q hq hq'
      obtain rfl : i = n := by omega
      refine ⟨x, q, ?_, hx.perm, hq, by omega⟩
      refine Ev.step (fun k => by rw [spec_l91Perm.l0]) ?_
      exact Ev.neg (by omega) (Ev.const rfl)
    | succ d ih =>
      intro i hd hi x hx q hq hq'
      have hl := hx.1
      obtain ⟨y, y1, y2, y3⟩ := spec_l6Rd_pick_ex l hb hn q ((i : Int) + 1) (by omega) (by omega)
      have y3 := y3 (by omega)
      obtain ⟨k, rfl⟩ : ∃ k : Nat, y = (k : Int) := ⟨y.toNat, by omega⟩
      by_cases e : k = i
      · subst e
        obtain ⟨x', q', r1, r2, r3, r4⟩ := ih (k + 1) (by omega) (by omega) _ hx.last (q + 1) (by omega) (by omega)
        refine ⟨x', q', ?_, r2, r3, r4⟩
        refine Ev.step (fun k => by rw [spec_l91Perm.l0]) ?_
        rw [wrap64_id (x := (k : Int) + 1) (by omega) (by omega)]
        refine Ev.pos (by omega) (Ev.bind y1 (Ev.pos rfl (Ev.pos (by omega) ?_)))
        exact r1
      · obtain ⟨x', q', r1, r2, r3, r4⟩ := ih (i + 1) (by omega) (by omega) _ (hx.swap (k := k) (by omega)) (q + 1) (by omega) (by omega)
        refine ⟨x', q', ?_, r2, r3, r4⟩
        refine Ev.step (fun k => by rw [spec_l91Perm.l0]) ?_
        rw [wrap64_id (x := (i : Int) + 1) (by omega) (by omega)]
        refine Ev.pos (by omega) (Ev.bind y1 (Ev.neg (by show ¬ ((k : Int) = (i : Int)); omega) (Ev.pos (by omega) (Ev.pos (by show (k : Int) < (x.length : Int); omega) (Ev.pos (by omega) (Ev.bindc rfl (Ev.pos (by show (k : Int) < ((x ++ [rd x (k : Int)]).length : Int); simp; omega) ?_)))))))
        exact r1
  unfold spec_l91Perm.f
  obtain ⟨x, q, r1, r2, r3, r4⟩ := key n 0 (by omega) (by omega) [] ⟨rfl, fun a ha => by omega, fun a b ha => by omega⟩ p (by omega) (by omega)
  exact ⟨x, q, r1, r2, r3, r4⟩
/-! ### spec_l91Map -/
theorem set_swap_perm {n : Nat} {t : List Int} (ht : PermL n t) {a b : Nat} (ha : a < n) (hb : b < n) : PermL n ((t.set a (rd t (b : Int))).set b (rd t (a : Int))) := by
  have hl := ht.1.1
  have val : ∀ i : Nat, i < n → fn ((t.set a (rd t (b : Int))).set b (rd t (a : Int))) i = (if i = b then fn t a else if i = a then fn t b else fn t i) := by
    intro i hi
    unfold fn
    by_cases e : i = b
    · subst e; rw [if_pos rfl, rd_set_self _ _ _ (by simp; omega)]
    · rw [if_neg e, rd_set_ne _ _ _ _ (Ne.symm e)]
      by_cases e2 : i = a
      · subst e2; rw [if_pos rfl, rd_set_self _ _ _ (by omega)]
      · rw [if_neg e2, rd_set_ne _ _ _ _ (Ne.symm e2)]
  have rng : ∀ i : Nat, i < n → 0 ≤ rd ((t.set a (rd t (b : Int))).set b (rd t (a : Int))) (i : Int) ∧ rd ((t.set a (rd t (b : Int))).set b (rd t (a : Int))) (i : Int) < n := by
    intro i hi
    by_cases e : i = b
    · subst e; rw [rd_set_self _ _ _ (by simp; omega)]; exact ht.1.2 a ha
    · rw [rd_set_ne _ _ _ _ (Ne.symm e)]
      by_cases e2 : i = a
      · subst e2; rw [rd_set_self _ _ _ (by omega)]; exact ht.1.2 b hb
      · rw [rd_set_ne _ _ _ _ (Ne.symm e2)]; exact ht.1.2 i hi
  refine ⟨⟨by simp [hl], rng⟩, fun i j hi hj e => ?_⟩
  have alt : ∀ i : Nat, i < n → ∃ s : Nat, s < n ∧ fn ((t.set a (rd t (b : Int))).set b (rd t (a : Int))) i = fn t s ∧ ((i = b ∧ s = a) ∨ (i ≠ b ∧ i = a ∧ s = b) ∨ (i ≠ b ∧ i ≠ a ∧ s = i)) := by
    intro i hi
    rw [val i hi]
    by_cases e : i = b
    · exact ⟨a, ha, by rw [if_pos e], .inl ⟨e, rfl⟩⟩
    · by_cases e2 : i = a
      · exact ⟨b, hb, by rw [if_neg e, if_pos e2], .inr (.inl ⟨e, e2, rfl⟩)⟩
      · exact ⟨i, hi, by rw [if_neg e, if_neg e2], .inr (.inr ⟨e, e2, rfl⟩)⟩
  obtain ⟨s, s1, s2, s3⟩ := alt i hi
  obtain ⟨u, u1, u2, u3⟩ := alt j hj
  rw [s2, u2] at e
  have := ht.2 s u s1 u1 e
  omega
theorem spec_l91Map_l2 {n : Nat} (hn0 : 1 ≤ n) (hn : n ≤ 100) {t f : List Int} (ht : PermL n t) (x5 x10 : Int) (l : List Int) (p : Int) (r : List Int × List Int × Int)
    (hr : ∀ t', PermL n t' → Ev (fun k => spec_l91Map.l1 k x5 (wrap64 (x10 + 1)) l p t' f) r) (o : List Int) (ho : o.length = n) (z : Nat) (hz : z < n) (hne : rd o (z : Int) ≠ 0) :
    ∀ d i, z - i = d → i ≤ z → Ev (fun k => spec_l91Map.l2 k x5 x10 o (i : Nat) l p t f) r := by
  have go : ∀ i : Nat, i < n → rd o (i : Int) ≠ 0 → Ev (fun k => spec_l91Map.l2 k x5 x10 o (i : Nat) l p t f) r := by
    intro i hi hne
    have hl := ht.1.1
    refine Ev.step (fun k => by rw [spec_l91Map.l2]) ?_
    refine Ev.pos (by omega) (Ev.pos (by omega) (Ev.neg hne (Ev.pos (by omega) (Ev.pos (by omega) ?_))))
    exact hr _ (set_swap_perm ht (a := 0) (b := i) (by omega) hi)
  intro d
  induction d with
  | zero =>
    intro i hd hi
    obtain rfl : i = z := by omega
    exact go i hz hne
  | succ d ih =>
    intro i hd hi
    by_cases e : rd o (i : Int) = 0
    · refine Ev.step (fun k => by rw [spec_l91Map.l2]) ?_
      rw [wrap64_id (x := (i : Int) + 1) (by omega) (by omega)]
      refine Ev.pos (by omega) (Ev.pos (by omega) (Ev.pos e ?_))
      exact ih (i + 1) (by omega) (by omega)
    · exact go i (by omega) e
/-- A map that is drawn: two lists of at most so many numbers. -/
theorem spec_l91Map_ex (l : List Int) (hb : Bytes l) (hn : l.length ≤ 2000) (p : Int) (m : Nat) (hm0 : 1 ≤ m) (hm : m ≤ 6) (hp0 : 0 ≤ p) (hp1 : p ≤ 100000) : ∃ t f q, Ev (fun k => spec_l91Map.f k l p (m : Nat)) (t, f, q) ∧ t.length ≤ 12 ∧ f.length ≤ 12 ∧ p ≤ q ∧ q ≤ p + 300 := by
  obtain ⟨x, x1, x2, x3⟩ := spec_l6Rd_pick_ex l hb hn p (m : Nat) (by omega) (by omega)
  have x3 := x3 (by omega)
  obtain ⟨c, rfl⟩ : ∃ c : Nat, x = (c : Int) := ⟨x.toNat, by omega⟩
  obtain ⟨n, hnn⟩ : ∃ n : Nat, n = 2 * (1 + c) := ⟨_, rfl⟩
  have hw : wrap64 (2 * wrap64 (1 + (c : Int))) = (n : Int) := by rw [wrap64_id (x := 1 + (c : Int)) (by omega) (by omega), wrap64_id (by omega) (by omega)]; omega
  obtain ⟨a, qa, a1, a2, a3, a4⟩ := spec_l91Perm_ex l hb hn (p + 1) n (by omega) (by omega) (by omega)
  have last : ∀ (t f : List Int) (i : Int) (q : Int), t.length = n → f.length = n → p ≤ q → q ≤ p + 250 → ∃ t' f' q', Ev (fun k => spec_l91Map.j2 k (n : Nat) i false l q t f) (t', f', q') ∧ t'.length ≤ 12 ∧ f'.length ≤ 12 ∧ p ≤ q' ∧ q' ≤ p + 300 := by
    intro t f i q ht hf hq hq'
    obtain ⟨y, y1, y2, y3⟩ := spec_l6Rd_pick_ex l hb hn q 50 (by omega) (by omega)
    by_cases e0 : y = 0
    · refine ⟨t, f.set (0 : Int).toNat 0, q + 1, ?_, by omega, by simp; omega, by omega, by omega⟩
      refine Ev.step (fun k => by rw [spec_l91Map.j2]) ?_
      exact Ev.neg (by simp) (Ev.bind y1 (Ev.pos e0 (Ev.pos (by omega) (Ev.const rfl))))
    · by_cases e1 : y = 1
      · refine ⟨t.drop (1 : Int).toNat, f, q + 1, ?_, by simp; omega, by omega, by omega, by omega⟩
        refine Ev.step (fun k => by rw [spec_l91Map.j2]) ?_
        exact Ev.neg (by simp) (Ev.bind y1 (Ev.neg e0 (Ev.pos e1 (Ev.pos (by omega) (Ev.const rfl)))))
      · by_cases e2 : y = 2
        · refine ⟨t.set (0 : Int).toNat (n : Nat), f, q + 1, ?_, by simp; omega, by omega, by omega, by omega⟩
          refine Ev.step (fun k => by rw [spec_l91Map.j2]) ?_
          exact Ev.neg (by simp) (Ev.bind y1 (Ev.neg e0 (Ev.neg e1 (Ev.pos e2 (Ev.pos (by omega) (Ev.const rfl))))))
        · refine ⟨t, f, q + 1, ?_, by omega, by omega, by omega, by omega⟩
          refine Ev.step (fun k => by rw [spec_l91Map.j2]) ?_
          exact Ev.neg (by simp) (Ev.bind y1 (Ev.neg e0 (Ev.neg e1 (Ev.neg e2 (Ev.const rfl)))))
  have loop : ∀ (f : List Int), PairL n f → ∀ d i : Nat, n - i = d → i ≤ n → ∀ t, PermL n t → ∀ q, p ≤ q → q ≤ p + 250 → ∃ t' f' q', Ev (fun k => spec_l91Map.l1 k (n : Nat) (i : Nat) l q t f) (t', f', q') ∧ t'.length ≤ 12 ∧ f'.length ≤ 12 ∧ p ≤ q' ∧ q' ≤ p + 300 := by
    intro f hf d
    induction d with
    | zero =>
      intro i hd hi t ht q hq hq'
      obtain ⟨t', f', q', r1, r2⟩ := last t f (i : Nat) q ht.1.1 hf.pts.1 hq hq'
      refine ⟨t', f', q', ?_, r2⟩
      refine Ev.step (fun k => by rw [spec_l91Map.l1]) ?_
      exact Ev.neg (by omega) r1
    | succ d ih =>
      intro i hd hi t ht q hq hq'
      have tl := ht.1.1
      have fl := hf.pts.1
      have hv := spec_MapValid_ev t f (by omega) (by omega)
      by_cases hM : MOK t f
      · obtain ⟨t', f', q', r1, r2⟩ := last t f (i : Nat) q tl fl hq hq'
        refine ⟨t', f', q', ?_, r2⟩
        rw [dec_t hM] at hv
        refine Ev.step (fun k => by rw [spec_l91Map.l1]) ?_
        exact Ev.pos (by omega) (Ev.bind hv r1)
      · rw [dec_f hM] at hv
        -- some point is not joined to the first one
        obtain ⟨z, hz, hne⟩ : ∃ z, z < n ∧ rd (orbL t f) (z : Int) ≠ 0 := by
          refine Classical.byContradiction fun hno => hM ?_
          have fp : PermL n f := ⟨hf.pts, fun a b ha hb e => by rw [← hf.inv a ha, e, hf.inv b hb]⟩
          refine ⟨⟨by omega, by rw [tl]; exact ht⟩, ⟨by omega, by rw [fl]; exact fp⟩, by omega, fun a ha => ⟨hf.ne a (by omega), hf.inv a (by omega)⟩, fun a ha => Classical.byContradiction fun w => hno ⟨a, by omega, w⟩⟩
        have each : ∀ t' : List Int, PermL n t' → ∃ r, Ev (fun k => spec_l91Map.l1 k (n : Nat) (wrap64 (((i : Nat) : Int) + 1)) l q t' f) r ∧ (r.1.length ≤ 12 ∧ r.2.1.length ≤ 12 ∧ p ≤ r.2.2 ∧ r.2.2 ≤ p + 300) := by
          intro t' ht'
          obtain ⟨t2, f2, q2, r1, r2⟩ := ih (i + 1) (by omega) (by omega) t' ht' q hq hq'
          rw [wrap64_id (x := (i : Int) + 1) (by omega) (by omega)]
          exact ⟨(t2, f2, q2), r1, r2⟩
        -- the first such point
        obtain ⟨y, ⟨hy, hyne⟩, hmin⟩ := least_of (fun y => y < n ∧ rd (orbL t f) (y : Int) ≠ 0) z ⟨hz, hne⟩
        obtain ⟨r, r1, r2⟩ := each _ (set_swap_perm ht (a := 0) (b := y) (by omega) hy)
        refine ⟨r.1, r.2.1, r.2.2, ?_, r2⟩
        refine Ev.step (fun k => by rw [spec_l91Map.l1]) ?_
        refine Ev.pos (by omega) (Ev.bind hv ?_)
        refine Ev.step (fun k => by rw [spec_l91Map.j2]) ?_
        refine Ev.pos rfl (Ev.bind (spec_l1Orbits_ev n (by omega) t f ht.1 hf.pts) ?_)
        have hol : (orbL t f).length = n := by rw [orbL_length, tl]
        have walk : ∀ d i', y - i' = d → i' ≤ y → Ev (fun k => spec_l91Map.l2 k (n : Nat) (i : Nat) (orbL t f) (i' : Nat) l q t f) r := by
          intro d'
          induction d' with
          | zero =>
            intro i' hd' hi'
            obtain rfl : i' = y := by omega
            refine Ev.step (fun k => by rw [spec_l91Map.l2]) ?_
            refine Ev.pos (by omega) (Ev.pos (by omega) (Ev.neg hyne (Ev.pos (by omega) (Ev.pos (by omega) ?_))))
            exact r1
          | succ d' ih' =>
            intro i' hd' hi'
            have e : rd (orbL t f) (i' : Int) = 0 := Classical.byContradiction fun w => by have := hmin i' ⟨by omega, w⟩; omega
            refine Ev.step (fun k => by rw [spec_l91Map.l2]) ?_
            rw [wrap64_id (x := (i' : Int) + 1) (by omega) (by omega)]
            exact Ev.pos (by omega) (Ev.pos (by omega) (Ev.pos e (ih' (i' + 1) (by omega) (by omega))))
        exact walk y 0 (by omega) (by omega)
  -- the pairs
  have pairs : ∀ d i : Nat, c + 1 - i = d → i ≤ c + 1 → ∀ f : List Int, f.length = n → (∀ j : Nat, j < 2 * i → rd f (fn a j : Int) = (fn a (if j % 2 = 0 then j + 1 else j - 1) : Int)) →
      ∃ t' f' q', Ev (fun k => spec_l91Map.l0 k (n : Nat) a f ((2 * i : Nat) : Int) l qa) (t', f', q') ∧ t'.length ≤ 12 ∧ f'.length ≤ 12 ∧ p ≤ q' ∧ q' ≤ p + 300 := by
    intro d
    induction d with
    | zero =>
      intro i hd hi f hf hq
      have hap := a2.perm
      have hF : PairL n f := by
        have at_ : ∀ j, j < n → rd f (fn a j : Int) = (fn a (if j % 2 = 0 then j + 1 else j - 1) : Int) ∧ (if j % 2 = 0 then j + 1 else j - 1) < n ∧ (if j % 2 = 0 then j + 1 else j - 1) ≠ j := fun j hj => ⟨hq j (by omega), by split <;> omega, by split <;> omega⟩
        have pre : ∀ x, x < n → ∃ j, j < n ∧ x = fn a j := fun x hx => ⟨bck n (fn a) x, hap.gl x hx, (hap.fg x hx).symm⟩
        have fnv : ∀ j, j < n → fn f (fn a j) = fn a (if j % 2 = 0 then j + 1 else j - 1) := fun j hj => by unfold fn; rw [show rd f ((rd a (j : Int)).toNat : Int) = _ from (at_ j hj).1]; rfl
        refine ⟨⟨hf, fun x hx => ?_⟩, fun x hx => ?_, fun x hx => ?_⟩
        · obtain ⟨j, hj, rfl⟩ := pre x hx
          obtain ⟨h1, h2, h3⟩ := at_ j hj
          rw [h1]
          have := hap.fl _ h2; omega
        · obtain ⟨j, hj, rfl⟩ := pre x hx
          obtain ⟨h1, h2, h3⟩ := at_ j hj
          rw [fnv j hj]
          exact fun w => h3 (a2.2 _ _ h2 hj w)
        · obtain ⟨j, hj, rfl⟩ := pre x hx
          obtain ⟨h1, h2, h3⟩ := at_ j hj
          rw [fnv j hj, fnv _ h2]
          congr 1
          split <;> (split <;> omega)
      obtain ⟨t0, q0, s1, s2, s3, s4⟩ := spec_l91Perm_ex l hb hn qa n (by omega) (by omega) (by omega)
      obtain ⟨t', f', q', r1, r2⟩ := loop f hF n 0 (by omega) (by omega) t0 s2 q0 (by omega) (by omega)
      refine ⟨t', f', q', ?_, r2⟩
      refine Ev.step (fun k => by rw [spec_l91Map.l0]) ?_
      rw [wrap64_id (x := ((2 * i : Nat) : Int) + 1) (by omega) (by omega)]
      exact Ev.neg (by omega) (Ev.bind s1 r1)
    | succ d ih =>
      intro i hd hi f hf hq
      have e1 := a2.1.fn (show 2 * i < n by omega)
      have e2 := a2.1.fn (show 2 * i + 1 < n by omega)
      have al := a2.1.1
      have hne : fn a (2 * i) ≠ fn a (2 * i + 1) := fun w => by have := a2.2 _ _ (by omega) (by omega) w; omega
      obtain ⟨t', f', q', r1, r2⟩ := ih (i + 1) (by omega) (by omega) ((f.set (fn a (2 * i)) (fn a (2 * i + 1) : Int)).set (fn a (2 * i + 1)) (fn a (2 * i) : Int)) (by simp [hf]) (fun j hj => by
        by_cases z1 : j = 2 * i + 1
        · rw [z1, if_neg (by omega), show 2 * i + 1 - 1 = 2 * i by omega]
          exact rd_set_self _ _ _ (by simp [hf]; omega)
        · by_cases z2 : j = 2 * i
          · rw [z2, if_pos (by omega), rd_set_ne _ _ _ _ (Ne.symm hne)]
            exact rd_set_self _ _ _ (by omega)
          · have n1 : fn a (2 * i + 1) ≠ fn a j := fun w => by have := a2.2 _ _ (by omega) (by omega) w; omega
            have n2 : fn a (2 * i) ≠ fn a j := fun w => by have := a2.2 _ _ (by omega) (by omega) w; omega
            rw [rd_set_ne _ _ _ _ n1, rd_set_ne _ _ _ _ n2]
            exact hq j (by omega))
      refine ⟨t', f', q', ?_, r2⟩
      refine Ev.step (fun k => by rw [spec_l91Map.l0]) ?_
      rw [wrap64_id (x := ((2 * i : Nat) : Int) + 1) (by omega) (by omega), wrap64_id (x := ((2 * i : Nat) : Int) + 2) (by omega) (by omega), show ((2 * i : Nat) : Int) + 1 = ((2 * i + 1 : Nat) : Int) by omega, e1.1, e2.1]
      simp only [toNat_nat]
      refine Ev.pos (by omega) (Ev.pos (by omega) (Ev.pos (by omega) (Ev.pos (by omega) (Ev.pos (by omega) (Ev.pos (by omega) (Ev.pos (by omega) (Ev.pos (by omega) (Ev.pos (by omega) ?_))))))))
      rw [show ((2 * i : Nat) : Int) + 2 = ((2 * (i + 1) : Nat) : Int) by omega]
      exact r1
  obtain ⟨t', f', q', r1, r2⟩ := pairs (c + 1) 0 (by omega) (by omega) (List.replicate n 0) (by simp) (fun j hj => by omega)
  refine ⟨t', f', q', ?_, r2⟩
  unfold spec_l91Map.f
  refine Ev.bind x1 ?_
  rw [hw]
  refine Ev.bind a1 (Ev.pos (by omega) (Ev.pos (by omega) ?_))
  exact r1
/-! ### spec_DrawTutteQuad -/
theorem spec_DrawTutteQuad_ex (l : List Int) (hb : Bytes l) : ∃ t f, Ev (fun n => spec_DrawTutteQuad.f n l) (t, f) ∧ t.length ≤ 12 ∧ f.length ≤ 12 := by
  obtain ⟨m, h1, h2, h3⟩ := spec_l6Open_ex l hb
  obtain ⟨x, x1, x2, x3⟩ := spec_l6Rd_pick_ex m h2 h3 0 16 (by omega) (by omega)
  by_cases e : x = 0
  · obtain ⟨t, f, q, r1, r2, r3, _, _⟩ := spec_l91Map_ex m h2 h3 (0 + 1) 5 (by omega) (by omega) (by omega) (by omega)
    refine ⟨t, f, ?_, r2, r3⟩
    unfold spec_DrawTutteQuad.f
    refine Ev.bindc h1 ?_
    refine Ev.bind x1 ?_
    refine Ev.pos e ?_
    exact Ev.bind r1 (Ev.const rfl)
  · obtain ⟨t, f, q, r1, r2, r3, _, _⟩ := spec_l91Map_ex m h2 h3 (0 + 1) 3 (by omega) (by omega) (by omega) (by omega)
    refine ⟨t, f, ?_, r2, r3⟩
    unfold spec_DrawTutteQuad.f
    refine Ev.bindc h1 ?_
    refine Ev.bind x1 ?_
    refine Ev.neg e ?_
    exact Ev.bind r1 (Ev.const rfl)
/-! ### impl_PermValid -/
theorem impl_PermValid_eq (p : List Int) : impl_PermValid.f p = some (dec (POK p)) := by
  show some (decide _) = _
  congr 1
  refine dec_of (and_congr_right fun _ => ⟨fun h => ⟨⟨rfl, fun i hi => (h i hi).1⟩, fun i j hi hj e => ?_⟩, fun h j hj => ⟨h.1.2 j hj, fun k hk e => ?_⟩⟩)
  · have h1 := (h i hi).1
    have h2 := (h j hj).1
    unfold fn at e
    have e' : rd p (i : Int) = rd p (j : Int) := by omega
    rcases Nat.lt_trichotomy i j with q | q | q
    · exact absurd e' ((h j hj).2 i q)
    · exact q
    · exact absurd e'.symm ((h i hi).2 j q)
  · have := h.2 k j (by omega) hj (by unfold fn; rw [e])
    omega
/-! ### slices_Max_int_int -/
theorem slices_Max_up (o : List Int) (m : Int) : ∀ i : Nat, m ≤ slices_Max_int_int.go o m i ∧ (∀ j : Nat, j < i → rd o (j : Int) ≤ slices_Max_int_int.go o m i) ∧ (slices_Max_int_int.go o m i = m ∨ ∃ j : Nat, j < i ∧ slices_Max_int_int.go o m i = rd o (j : Int))
  | 0 => ⟨Int.le_refl _, fun j hj => by omega, .inl rfl⟩
  | i + 1 => by
    obtain ⟨h1, h2, h3⟩ := slices_Max_up o m i
    simp only [slices_Max_int_int.go]
    generalize slices_Max_int_int.go o m i = v at *
    split
    · next hlt =>
      refine ⟨by omega, fun j hj => ?_, .inr ⟨i, by omega, rfl⟩⟩
      by_cases e : j = i
      · subst e; exact Int.le_refl _
      · have := h2 j (by omega); omega
    · next hlt =>
      refine ⟨h1, fun j hj => ?_, ?_⟩
      · by_cases e : j = i
        · subst e; omega
        · exact h2 j (by omega)
      · rcases h3 with h3 | ⟨j, hj, h3⟩
        · exact .inl h3
        · exact .inr ⟨j, by omega, h3⟩
theorem slices_Max_zero (o : List Int) (h : 0 < o.length) (h0 : ∀ i : Nat, i < o.length → 0 ≤ rd o (i : Int)) : ∃ v, slices_Max_int_int.f o = some v ∧ (v = 0 ↔ ∀ i : Nat, i < o.length → rd o (i : Int) = 0) := by
  refine ⟨_, by unfold slices_Max_int_int.f; rw [if_pos h], ?_⟩
  unfold slices_Max_int_int.up
  obtain ⟨h1, h2, h3⟩ := slices_Max_up o (rd o 0) o.length
  constructor
  · intro e i hi
    have := h2 i hi
    have := h0 i hi
    omega
  · intro ha
    rcases h3 with h3 | ⟨j, hj, h3⟩
    · rw [h3]; exact ha 0 h
    · rw [h3]; exact ha j hj
/-! ### impl_still -/
theorem impl_still_ev (n : Nat) (hn : n ≤ 4194304) : Ev (fun k => impl_still.f k (n : Nat)) (idL n) := by
  have key : ∀ d i, n - i = d → i ≤ n → ∀ x3 : List Int, x3.length = n → (∀ q : Nat, q < i → rd x3 (q : Int) = (q : Int)) → Ev (fun k => impl_still.l0 k x3 (n : Nat) (i : Nat)) (idL n) := by
    intro d
    induction d with
    | zero =>
      intro i hd hi x3 h3 hq
      obtain rfl : i = n := by omega
      refine Ev.step (fun k => by rw [impl_still.l0]) ?_
      refine Ev.neg (by omega) (Ev.const ?_)
      congr 1
      exact list_ext_rd (by rw [h3, idL_length]) (fun q hq' => by rw [hq q (by omega), rd_idL i q (by omega)])
    | succ d ih =>
      intro i hd hi x3 h3 hq
      refine Ev.step (fun k => by rw [impl_still.l0]) (Ev.pos (by omega) (Ev.pos (by omega) (Ev.pos (by omega) ?_)))
      rw [wrap64_id (by omega) (by omega)]
      refine ih (i + 1) (by omega) (by omega) (x3.set i (i : Int)) (by simp [h3]) (fun q hqi => ?_)
      by_cases e : i = q
      · subst e; exact rd_set_self _ _ _ (by omega)
      · rw [rd_set_ne _ _ _ _ e]; exact hq q (by omega)
  unfold impl_still.f
  refine Ev.pos (by omega) (Ev.pos (by omega) (Ev.bindc rfl ?_))
  have := key n 0 (by omega) (by omega) (List.replicate n 0) (by simp) (fun q hq => by omega)
  rw [List.length_replicate]
  exact this
/-! ### impl_orbits -/
def orbSum (o : List Int) : Nat := o.foldr (fun x s => x.toNat + s) 0
theorem orbSum_set (o : List Int) : ∀ (i : Nat) (x : Int), i < o.length → 0 ≤ x → x < rd o (i : Int) → orbSum (o.set i x) < orbSum o := by
  induction o with
  | nil => intro i x h; simp at h
  | cons y l ih =>
    intro i x h h0 hx
    cases i with
    | zero =>
      have : rd (y :: l) ((0 : Nat) : Int) = y := rfl
      rw [this] at hx
      simp only [List.set_cons_zero, orbSum, List.foldr_cons]
      omega
    | succ i =>
      have : rd (y :: l) ((i + 1 : Nat) : Int) = rd l (i : Int) := by
        simp only [rd, List.getD_eq_getElem?_getD, Int.toNat_natCast, List.getElem?_cons_succ]
      rw [this] at hx
      have := ih i x (by simpa using h) h0 hx
      simp only [List.set_cons_succ, orbSum, List.foldr_cons] at *
      omega
theorem orbSum_set_le (o : List Int) (i : Nat) (x : Int) (h : i < o.length) (h0 : 0 ≤ x) (hx : x ≤ rd o (i : Int)) : orbSum (o.set i x) ≤ orbSum o := by
  by_cases e : x = rd o (i : Int)
  · have : o.set i x = o := by
      refine list_ext_rd (by simp) (fun q hq => ?_)
      by_cases eq : i = q
      · subst eq; rw [rd_set_self _ _ _ h, e]
      · rw [rd_set_ne _ _ _ _ eq]
    rw [this]; exact Nat.le_refl _
  · exact Nat.le_of_lt (orbSum_set o i x h h0 (by omega))
theorem impl_orbits_l2_ev {n : Nat} (hn : n ≤ 4194304) {a b : List Int} (ha : Pts n a) (hb : Pts n b) (p : List Int) (hp : Pts n p)
    (hpc : ∀ i, i < n → Con n a b i (fn p i)) (L : List (List Int)) (o0 : List Int) (x17 x18 : Int) (r : List Int) (pre : Prop)
    (hr : ∀ o g, OrbPre n a b o → (g = true → orbSum o < orbSum o0) → (g = false → o = o0 ∧ pre ∧ ∀ i, i < n → rd o (fn p i : Int) = rd o (i : Int)) → Ev (fun k => impl_orbits.l1 k L o g L x17 (wrap64 (x18 + 1))) r) :
    ∀ d i, n - i = d → i ≤ n → ∀ o g, OrbPre n a b o → (g = true → orbSum o < orbSum o0) → (g = false → o = o0 ∧ pre ∧ ∀ q, q < i → rd o (fn p q : Int) = rd o (q : Int)) →
      Ev (fun k => impl_orbits.l2 k L o g L x17 x18 p (n : Nat) (i : Nat)) r := by
  intro d
  induction d with
  | zero =>
    intro i hd hi o g h hg hf
    obtain rfl : i = n := by omega
    refine Ev.step (fun k => by rw [impl_orbits.l2]) ?_
    refine Ev.neg (by omega) ?_
    exact hr o g h hg hf
  | succ d ih =>
    intro i hd hi o g h hg hf
    have hi' : i < n := by omega
    have ep := hp.fn hi'
    have lp := hp.1
    have lo := h.1
    have gi := h.2 i hi'
    have gp := h.2 _ ep.2
    refine Ev.step (fun k => by rw [impl_orbits.l2]) ?_
    rw [ep.1, wrap64_id (x := (i : Int) + 1) (by omega) (by omega)]
    simp only [toNat_nat]
    refine Ev.pos (by omega) (Ev.pos (by omega) (Ev.pos (by omega) (Ev.pos (by omega) (Ev.pos (by omega) (Ev.pos (by omega) ?_)))))
    -- what a change does
    have hch : ¬ (rd o (i : Int) = rd o (fn p i : Int)) → Ev (fun k => impl_orbits.l2 k L ((o.set i (mn (rd o (i : Int)) (rd o (fn p i : Int)))).set (fn p i) (mn (rd o (i : Int)) (rd o (fn p i : Int)))) true L x17 x18 p (n : Nat) ((i : Int) + 1)) r := by
      intro hne
      have hx : mn (rd o (i : Int)) (rd o (fn p i : Int)) ≤ rd o (i : Int) ∧ mn (rd o (i : Int)) (rd o (fn p i : Int)) ≤ rd o (fn p i : Int) ∧ (mn (rd o (i : Int)) (rd o (fn p i : Int)) < rd o (i : Int) ∨ mn (rd o (i : Int)) (rd o (fn p i : Int)) < rd o (fn p i : Int)) ∧ 0 ≤ mn (rd o (i : Int)) (rd o (fn p i : Int)) ∧
          (mn (rd o (i : Int)) (rd o (fn p i : Int)) = rd o (i : Int) ∨ mn (rd o (i : Int)) (rd o (fn p i : Int)) = rd o (fn p i : Int)) := by unfold mn; omega
      generalize mn (rd o (i : Int)) (rd o (fn p i : Int)) = x at *
      obtain ⟨x1, x2, x3, x4, x5⟩ := hx
      have hcx : Con n a b i x.toNat := by
        rcases x5 with e | e
        · rw [e]; exact gi.2.2
        · rw [e]; exact (hpc i hi').trans gp.2.2
      have p1 := h.put hi' x x4 (by omega) hcx
      have p2 := p1.put ep.2 x x4 (by omega) ((hpc i hi').symm.trans hcx)
      have hs : orbSum ((o.set i x).set (fn p i) x) < orbSum o := by
        have l1 := orbSum_set_le o i x (by omega) x4 x1
        by_cases e : i = fn p i
        · rw [← e] at hne; exact absurd rfl hne
        · have e2 : rd (o.set i x) (fn p i : Int) = rd o (fn p i : Int) := rd_set_ne _ _ _ _ e
          have l2 := orbSum_set_le (o.set i x) (fn p i) x (by simp; omega) x4 (by omega)
          rcases x3 with q | q
          · have := orbSum_set o i x (by omega) x4 q; omega
          · have := orbSum_set (o.set i x) (fn p i) x (by simp; omega) x4 (by omega); omega
      have hs0 : orbSum o ≤ orbSum o0 := by
        cases g with
        | true => exact Nat.le_of_lt (hg rfl)
        | false => rw [(hf rfl).1]; exact Nat.le_refl _
      exact ih (i + 1) (by omega) (by omega) _ true p2 (fun _ => by omega) (fun q => by cases q)
    refine Ev.ite (fun e1 => Ev.ite (fun e2 => ?_) (fun e2 => hch (fun e => e2 ?_))) (fun e1 => hch (fun e => e1 ?_))
    · refine ih (i + 1) (by omega) (by omega) o g h hg (fun hgf => ?_)
      obtain ⟨f1, f2, f3⟩ := hf hgf
      refine ⟨f1, f2, fun q hq => ?_⟩
      by_cases e : q = i
      · subst e; omega
      · exact f3 q (by omega)
    · unfold mn at *; omega
    · unfold mn; omega
theorem impl_orbits_ev (n : Nat) (hn : n ≤ 4194304) (a b : List Int) (ha : Pts n a) (hb : Pts n b) : Ev (fun k => impl_orbits.f k [a, b]) (orbL a b) := by
  have la := ha.1
  have lb := hb.1
  have r0 : rd_L2 [a, b] ((0 : Nat) : Int) = a := rfl
  have r1 : rd_L2 [a, b] ((1 : Nat) : Int) = b := rfl
  have main : ∀ m o, orbSum o ≤ m → OrbPre n a b o → Ev (fun k => impl_orbits.l0 k [a, b] o true) (orbL a b) := by
    intro m
    induction m using Nat.strongRecOn with
    | _ m ih =>
      intro o hm h
      refine Ev.step (fun k => by rw [impl_orbits.l0]) ?_
      refine Ev.pos rfl ?_
      have last : ∀ o' g, OrbPre n a b o' → (g = true → orbSum o' < orbSum o) → (g = false → o' = o ∧ (∀ i, i < n → rd o' (fn a i : Int) = rd o' (i : Int)) ∧ ∀ i, i < n → rd o' (fn b i : Int) = rd o' (i : Int)) →
          Ev (fun k => impl_orbits.l1 k [a, b] o' g [a, b] ((2 : Nat) : Int) ((2 : Nat) : Int)) (orbL a b) := by
        intro o' g h' hg hf
        refine Ev.step (fun k => by rw [impl_orbits.l1]) ?_
        refine Ev.neg (by omega) ?_
        cases g with
        | true => exact ih (orbSum o') (by have := hg rfl; omega) o' (Nat.le_refl _) h'
        | false =>
          obtain ⟨f1, f2, f3⟩ := hf rfl
          refine Ev.step (fun k => by rw [impl_orbits.l0]) ?_
          refine Ev.neg (by simp) (Ev.const ?_)
          congr 1
          exact IsOrb.eq ha hb ⟨h', fun i hi => ⟨f2 i hi, f3 i hi⟩⟩
      have second : ∀ o' g, OrbPre n a b o' → (g = true → orbSum o' < orbSum o) → (g = false → o' = o ∧ True ∧ ∀ i, i < n → rd o' (fn a i : Int) = rd o' (i : Int)) →
          Ev (fun k => impl_orbits.l1 k [a, b] o' g [a, b] ((2 : Nat) : Int) ((1 : Nat) : Int)) (orbL a b) := by
        intro o' g h' hg hf
        refine Ev.step (fun k => by rw [impl_orbits.l1]) ?_
        refine Ev.pos (by omega) (Ev.pos (by omega) (Ev.pos (by simp) ?_))
        rw [r1, lb]
        refine impl_orbits_l2_ev hn ha hb b hb (fun i hi => Con.fb hi) [a, b] o _ _ _ (∀ i, i < n → rd o (fn a i : Int) = rd o (i : Int)) (fun o2 g2 h2 hg2 hf2 => ?_) n 0 (by omega) (by omega) o' g h' hg (fun q => ?_)
        · have e : wrap64 (((1 : Nat) : Int) + 1) = ((2 : Nat) : Int) := by rw [wrap64_id (by omega) (by omega)]; rfl
          rw [e]
          exact last o2 g2 h2 hg2 (fun q => by obtain ⟨z1, z2, z3⟩ := hf2 q; refine ⟨z1, ?_, z3⟩; rw [z1]; exact z2)
        · obtain ⟨z1, _, z3⟩ := hf q
          exact ⟨z1, by rw [z1] at z3; exact z3, fun q hq => by omega⟩
      refine Ev.step (fun k => by rw [impl_orbits.l1]) ?_
      refine Ev.pos (by simp) (Ev.pos (by omega) (Ev.pos (by simp) ?_))
      have r0' : rd_L2 [a, b] 0 = a := rfl
      rw [r0', la]
      refine impl_orbits_l2_ev hn ha hb a ha (fun i hi => Con.fa hi) [a, b] o _ _ _ True (fun o2 g2 h2 hg2 hf2 => ?_) n 0 (by omega) (by omega) o false h (fun q => by cases q) (fun _ => ⟨rfl, trivial, fun q hq => by omega⟩)
      have e1 : wrap64 (0 + 1) = ((1 : Nat) : Int) := by rw [wrap64_id (by omega) (by omega)]; rfl
      rw [e1]
      exact second o2 g2 h2 hg2 hf2
  unfold impl_orbits.f
  have r0' : rd_L2 [a, b] 0 = a := rfl
  refine Ev.pos (by simp) ?_
  rw [r0', la]
  refine Ev.bind (impl_still_ev n hn) ?_
  exact main _ _ (Nat.le_refl _) (OrbPre.start n a b)
/-! ### impl_MapValid -/
theorem impl_MapValid_ev (t f : List Int) : Ev (fun k => impl_MapValid.f k t f) (dec (MOK t f)) := by
  have hno : ¬ MOK t f → Ev (fun k => impl_MapValid.j0 k true t f) (dec (MOK t f)) := fun h => by
    rw [dec_f h]
    exact Ev.step (fun k => by rw [impl_MapValid.j0]) (Ev.pos rfl (Ev.const rfl))
  unfold impl_MapValid.f
  refine Ev.bindc (impl_PermValid_eq t) ?_
  refine Ev.ite (fun h1 => ?_) (fun h1 => hno (fun w => h1 (dec_t w.1)))
  refine Ev.bindc (impl_PermValid_eq f) ?_
  refine Ev.ite (fun h2 => ?_) (fun h2 => hno (fun w => h2 (dec_t w.2.1)))
  have pt := dec_iff.1 h1
  have pf := dec_iff.1 h2
  by_cases hl : t.length = f.length
  · rw [show ((t.length : Int) != (f.length : Int)) = false by simp [hl]]
    refine Ev.step (fun k => by rw [impl_MapValid.j0]) ?_
    refine Ev.neg (by simp) ?_
    obtain ⟨⟨t1, t2⟩, t3⟩ := pt
    obtain ⟨⟨f1, f2⟩, f3⟩ := pf
    have ft := f3.1
    have tt := t3.1
    rw [hl] at tt
    have key : ∀ d i, f.length - i = d → i ≤ f.length → (∀ q, q < i → fn f q ≠ q ∧ fn f (fn f q) = q) → Ev (fun k => impl_MapValid.l0 k f (f.length : Nat) (i : Nat) t f) (dec (MOK t f)) := by
      intro d
      induction d with
      | zero =>
        intro i hd hi hq
        obtain rfl : i = f.length := by omega
        refine Ev.step (fun k => by rw [impl_MapValid.l0]) ?_
        refine Ev.neg (by omega) ?_
        have ho := (orbL_isOrb tt ft)
        have hol := ho.1.1
        obtain ⟨v, v1, v2⟩ := slices_Max_zero (orbL t f) (by omega) (fun i hi => (ho.1.2 i (by omega)).1)
        refine Ev.bind (impl_orbits_ev f.length (by omega) t f tt ft) ?_
        refine Ev.bindc v1 ?_
        refine Ev.const ?_
        congr 1
        by_cases hv : v = 0
        · rw [dec_t, hv]; · rfl
          exact ⟨⟨⟨t1, t2⟩, t3⟩, ⟨⟨f1, f2⟩, f3⟩, hl, hq, fun i hi => v2.1 hv i (by omega)⟩
        · rw [dec_f, beq_eq_false_iff_ne]; · exact hv
          exact fun w => hv (v2.2 (fun i hi => w.2.2.2.2 i (by omega)))
      | succ d ih =>
        intro i hd hi hq
        have hi' : i < f.length := by omega
        have e1 := ft.fn hi'
        have e2 := ft.fn e1.2
        refine Ev.step (fun k => by rw [impl_MapValid.l0]) ?_
        rw [e1.1, e2.1, wrap64_id (x := (i : Int) + 1) (by omega) (by omega)]
        refine Ev.pos (by omega) (Ev.pos (by omega) (Ev.pos (by omega) ?_))
        refine Ev.ite (fun n1 => ?_) (fun n1 => ?_)
        · rw [dec_f (fun w => (w.2.2.2.1 i hi').1 (by omega))]; exact Ev.const rfl
        refine Ev.pos (by omega) (Ev.pos (by omega) ?_)
        refine Ev.ite (fun n2 => ?_) (fun n2 => ?_)
        · refine ih (i + 1) (by omega) (by omega) (fun q hqi => ?_)
          by_cases e : q = i
          · subst e; exact ⟨by omega, by omega⟩
          · exact hq q (by omega)
        · rw [dec_f (fun w => n2 (by have := (w.2.2.2.1 i hi').2; omega))]; exact Ev.const rfl
    exact key f.length 0 (by omega) (by omega) (fun q hq => by omega)
  · rw [show ((t.length : Int) != (f.length : Int)) = true by simp; omega]
    exact hno (fun w => hl w.2.2.1)
/-! ### impl_back -/
theorem back_ext' {n : Nat} {p x : List Int} (hp : PermL n p) (hx : x.length = n) (hq : ∀ q : Nat, q < n → rd x (fn p q : Int) = (q : Int)) : x = backL p := by
  have h := hp.perm
  refine list_ext_rd (by rw [hx, backL_length, hp.1.1]) (fun j hj => ?_)
  rw [rd_backL p j (by rw [hp.1.1]; omega), hp.1.1]
  have := hq (bck n (fn p) j) (h.gl j (by omega))
  rw [h.fg j (by omega)] at this
  exact this
theorem back_set' {n : Nat} {p x : List Int} (hp : PermL n p) (hx : x.length = n) {i : Nat} (hi : i < n) (hq : ∀ q : Nat, q < i → rd x (fn p q : Int) = (q : Int)) : ∀ q : Nat, q < i + 1 → rd (x.set (fn p i) (i : Int)) (fn p q : Int) = (q : Int) := by
  intro q hqi
  by_cases e : q = i
  · subst e; exact rd_set_self _ _ _ (by rw [hx]; exact (hp.1.fn hi).2)
  · rw [rd_set_ne _ _ _ _ (fun w => e (hp.2 q i (by omega) hi w.symm))]; exact hq q (by omega)
theorem impl_back_ev (n : Nat) (hn : n ≤ 4194304) (p : List Int) (hp : PermL n p) : Ev (fun k => impl_back.f k p) (backL p) := by
  have hl := hp.1.1
  have key : ∀ d i, n - i = d → i ≤ n → ∀ x : List Int, x.length = n → (∀ q : Nat, q < i → rd x (fn p q : Int) = (q : Int)) → Ev (fun k => impl_back.l0 k x p (n : Nat) (i : Nat)) (backL p) := by
    intro d
    induction d with
    | zero =>
      intro i hd hi x hx hq
      refine Ev.step (fun k => by rw [impl_back.l0]) ?_
      refine Ev.neg (by omega) (Ev.const ?_)
      rw [back_ext' hp hx (fun q hq' => hq q (by omega))]
    | succ d ih =>
      intro i hd hi x hx hq
      have e1 := hp.1.fn (show i < n by omega)
      refine Ev.step (fun k => by rw [impl_back.l0]) ?_
      rw [e1.1, wrap64_id (x := (i : Int) + 1) (by omega) (by omega)]
      simp only [toNat_nat]
      refine Ev.pos (by omega) (Ev.pos (by omega) (Ev.pos (by omega) (Ev.pos (by omega) (Ev.pos (by omega) ?_))))
      exact ih (i + 1) (by omega) (by omega) _ (by simp [hx]) (back_set' hp hx (by omega) hq)
  unfold impl_back.f
  rw [hl]
  refine Ev.pos (by omega) (Ev.pos (by omega) ?_)
  exact key n 0 (by omega) (by omega) _ (by simp) (fun q hq => by omega)
/-! ### impl_mul -/
theorem impl_mul_ev (a b : List Int) (hn : a.length ≤ 4194304) (h : ∀ i : Nat, i < a.length → 0 ≤ rd a (i : Int) ∧ rd a (i : Int) < b.length) : Ev (fun k => impl_mul.f k a b) (mulL a b) := by
  have key : ∀ d i, a.length - i = d → i ≤ a.length → ∀ x : List Int, x.length = a.length → (∀ q : Nat, q < i → rd x (q : Int) = rd b (rd a (q : Int))) →
      Ev (fun k => impl_mul.l0 k b x a (a.length : Nat) (i : Nat)) (mulL a b) := by
    intro d
    induction d with
    | zero =>
      intro i hd hi x hx hq
      refine Ev.step (fun k => by rw [impl_mul.l0]) (Ev.neg (by omega) (Ev.const ?_))
      congr 1
      refine list_ext_rd (by rw [hx, mulL_length]) (fun j hj => ?_)
      rw [hq j (by omega), rd_mulL a b j (by omega)]
    | succ d ih =>
      intro i hd hi x hx hq
      have e1 := h i (by omega)
      refine Ev.step (fun k => by rw [impl_mul.l0]) ?_
      rw [wrap64_id (x := (i : Int) + 1) (by omega) (by omega)]
      simp only [toNat_nat]
      refine Ev.pos (by omega) (Ev.pos (by omega) (Ev.pos (by omega) (Ev.pos (by omega) (Ev.pos (by omega) (Ev.pos (by omega) ?_)))))
      refine ih (i + 1) (by omega) (by omega) _ (by simp [hx]) (fun q hqi => ?_)
      by_cases e : i = q
      · subst e; exact rd_set_self _ _ _ (by omega)
      · rw [rd_set_ne _ _ _ _ e]; exact hq q (by omega)
  unfold impl_mul.f
  refine Ev.pos (by omega) (Ev.pos (by omega) ?_)
  exact key a.length 0 (by omega) (by omega) _ (by simp) (fun q hq => by omega)
/-! ### impl_TutteQuad -/
theorem impl_TutteQuad_ev (t f : List Int) : Ev (fun k => impl_TutteQuad.f k t f) (tutM t f) := by
  have no : tutM t f = ([], [], false) → Ev (fun k => impl_TutteQuad.j0 k true t f) (tutM t f) := fun e => by
    rw [e]
    exact Ev.step (fun k => by rw [impl_TutteQuad.j0]) (Ev.pos rfl (Ev.const rfl))
  unfold impl_TutteQuad.f
  refine Ev.bind (impl_MapValid_ev t f) ?_
  by_cases h : MOK t f
  · have hz := h.size
    have ht := h.permT
    have hf := h.permF
    refine Ev.pos (dec_t h) ?_
    by_cases h6 : t.length ≤ 6
    · rw [decide_eq_false (by omega : ¬ (t.length : Int) > 6)]
      have hm := mulL_perm hf ht
      have hb := backL_perm hm
      have hT : tutM t f = (rngL (tqA t (backL (mulL f t))) (2 * t.length), rngL tqB (2 * t.length), true) := by unfold tutM; rw [if_pos (dec_t ⟨h, h6⟩)]
      rw [hT]
      refine Ev.step (fun k => by rw [impl_TutteQuad.j0]) ?_
      refine Ev.neg (by decide) ?_
      refine Ev.bind (impl_mul_ev f t (by omega) (fun i hi => by have := hf.1.2 i (by omega); omega)) ?_
      refine Ev.bind (impl_back_ev t.length (by omega) _ hm) ?_
      generalize backL (mulL f t) = b at *
      have key : ∀ d i, t.length - i = d → i ≤ t.length → Ev (fun k => impl_TutteQuad.l0 k b (t.length : Nat) (i : Nat) t f (partL (tqA t b) (2 * t.length) (2 * i)) (partL tqB (2 * t.length) (2 * i))) (rngL (tqA t b) (2 * t.length), rngL tqB (2 * t.length), true) := by
        intro d
        induction d with
        | zero =>
          intro i hd hi
          obtain rfl : i = t.length := by omega
          refine Ev.step (fun k => by rw [impl_TutteQuad.l0]) ?_
          refine Ev.neg (by omega) (Ev.const ?_)
          rw [partL_all, partL_all]
        | succ d ih =>
          intro i hd hi
          have e1 := ht.1.fn (show i < t.length by omega)
          have e2 := hb.1.fn (show i < t.length by omega)
          have lb := hb.1.1
          have hF : ((partL tqB (2 * t.length) (2 * i)).set (2 * i) ((2 * i + 1 : Nat) : Int)).set (2 * i + 1) ((2 * i : Nat) : Int) = partL tqB (2 * t.length) (2 * (i + 1)) := by
            have := partL_two tqB (2 * t.length) i
            rwa [tqB_even, tqB_odd] at this
          refine Ev.step (fun k => by rw [impl_TutteQuad.l0]) ?_
          rw [e1.1, e2.1, tq_w3 t b i (by omega), tq_w4 t b i (by omega), tq_w1 i (by omega), tq_w2 i (by omega), tq_w5 i (by omega)]
          simp only [toNat_nat, partL_length]
          rw [partL_two, hF]
          refine Ev.pos (by omega) (Ev.pos (by omega) (Ev.pos (by omega) (Ev.pos (by omega) (Ev.pos (by omega) ?_))))
          refine Ev.pos (by omega) (Ev.pos (by omega) (Ev.pos (by omega) (Ev.pos (by omega) (Ev.pos (by omega) ?_))))
          exact ih (i + 1) (by omega) (by omega)
      have k0 := key t.length 0 (by omega) (by omega)
      rw [Nat.mul_zero, partL_none, partL_none] at k0
      rw [show wrap64 (2 * (t.length : Int)) = ((2 * t.length : Nat) : Int) from tq_w1 _ (by omega)]
      simp only [toNat_nat]
      exact Ev.pos (by omega) (Ev.pos (by omega) k0)
    · rw [decide_eq_true (by omega : (t.length : Int) > 6)]
      exact no (by unfold tutM; rw [if_neg (by rw [dec_f (fun w => h6 w.2)]; decide)])
  · refine Ev.neg (by rw [dec_f h]; decide) ?_
    exact no (by unfold tutM; rw [if_neg (by rw [dec_f (fun w => h w.1)]; decide)])
/-! ### spec_l1Back -/
theorem back_ext {n : Nat} {p x : List Int} (hp : PermL n p) (hx : x.length = n) (hq : ∀ q : Nat, q < n → rd x (fn p q : Int) = (q : Int)) : x = backL p := by
  have h := hp.perm
  refine list_ext_rd (by rw [hx, backL_length, hp.1.1]) (fun j hj => ?_)
  rw [rd_backL p j (by rw [hp.1.1]; omega), hp.1.1]
  have := hq (bck n (fn p) j) (h.gl j (by omega))
  rw [h.fg j (by omega)] at this
  exact this
theorem back_set {n : Nat} {p x : List Int} (hp : PermL n p) (hx : x.length = n) {i : Nat} (hi : i < n) (hq : ∀ q : Nat, q < i → rd x (fn p q : Int) = (q : Int)) : ∀ q : Nat, q < i + 1 → rd (x.set (fn p i) (i : Int)) (fn p q : Int) = (q : Int) := by
  intro q hqi
  by_cases e : q = i
  · subst e; exact rd_set_self _ _ _ (by rw [hx]; exact (hp.1.fn hi).2)
  · rw [rd_set_ne _ _ _ _ (fun w => e (hp.2 q i (by omega) hi w.symm))]; exact hq q (by omega)
theorem spec_l1Back_ev (n : Nat) (hn : n ≤ 4194304) (p : List Int) (hp : PermL n p) : Ev (fun k => spec_l1Back.f k p) (backL p) := by
  have hl := hp.1.1
  have key : ∀ d i, n - i = d → i ≤ n → ∀ x : List Int, x.length = n → (∀ q : Nat, q < i → rd x (fn p q : Int) = (q : Int)) → Ev (fun k => spec_l1Back.l0 k p x (i : Nat)) (backL p) := by
    intro d
    induction d with
    | zero =>
      intro i hd hi x hx hq
      refine Ev.step (fun k => by rw [spec_l1Back.l0]) ?_
      refine Ev.neg (by omega) (Ev.const ?_)
      rw [back_ext hp hx (fun q hq' => hq q (by omega))]
    | succ d ih =>
      intro i hd hi x hx hq
      have e1 := hp.1.fn (show i < n by omega)
      refine Ev.step (fun k => by rw [spec_l1Back.l0]) ?_
      rw [e1.1, wrap64_id (x := (i : Int) + 1) (by omega) (by omega)]
      simp only [toNat_nat]
      refine Ev.pos (by omega) (Ev.pos (by omega) (Ev.pos (by omega) (Ev.pos (by omega) ?_)))
      exact ih (i + 1) (by omega) (by omega) _ (by simp [hx]) (back_set hp hx (by omega) hq)
  unfold spec_l1Back.f
  rw [hl]
  refine Ev.pos (by omega) (Ev.pos (by omega) ?_)
  exact key n 0 (by omega) (by omega) _ (by simp) (fun q hq => by omega)
/-! ### spec_l1Mul -/
theorem spec_l1Mul_ev (a b : List Int) (hn : a.length ≤ 4194304) (h : ∀ i : Nat, i < a.length → 0 ≤ rd a (i : Int) ∧ rd a (i : Int) < b.length) : Ev (fun k => spec_l1Mul.f k a b) (mulL a b) := by
  have key : ∀ d i, a.length - i = d → i ≤ a.length → Ev (fun k => spec_l1Mul.l0 k a b ((mulL a b).take i) (i : Nat)) (mulL a b) := by
    intro d
    induction d with
    | zero =>
      intro i hd hi
      refine Ev.step (fun k => by rw [spec_l1Mul.l0]) (Ev.neg (by omega) (Ev.const ?_))
      rw [List.take_of_length_le (by rw [mulL_length]; omega)]
    | succ d ih =>
      intro i hd hi
      have e1 := h i (by omega)
      have hz : ((mulL a b).take i).length ≤ a.length := by rw [List.length_take, mulL_length]; omega
      refine Ev.step (fun k => by rw [spec_l1Mul.l0]) ?_
      rw [wrap64_id (x := (i : Int) + 1) (by omega) (by omega)]
      refine Ev.pos (by omega) (Ev.pos (by omega) (Ev.pos (by omega) (Ev.pos (by omega) (Ev.pos (by omega) ?_))))
      have := ih (i + 1) (by omega) (by omega)
      rw [List.take_succ_eq_append_getElem (by rw [mulL_length]; omega), ← rd_nat (mulL a b) i (by rw [mulL_length]; omega), rd_mulL a b i (by omega)] at this
      exact this
  unfold spec_l1Mul.f
  have := key a.length 0 (by omega) (by omega)
  exact this
/-! ### spec_l2Faces -/
theorem spec_l2Faces_ev (n : Nat) (hn : n ≤ 4194304) (t f : List Int) (ht : PermL n t) (hf : PermL n f) : Ev (fun k => spec_l2Faces.f k t f) (mulL f t) := by
  unfold spec_l2Faces.f
  exact Ev.bind (spec_l1Mul_ev f t (by rw [hf.1.1]; exact hn) (fun i hi => by rw [ht.1.1]; exact hf.1.2 i (by rw [hf.1.1] at hi; exact hi))) (Ev.const rfl)
/-! ### spec_l3Flip -/
theorem spec_l3Flip_ev (n : Nat) (hn : n ≤ 4194304) : Ev (fun k => spec_l3Flip.f k (n : Int)) (rngL tqB (2 * n)) := by
  have key : ∀ d i, n - i = d → i ≤ n → Ev (fun k => spec_l3Flip.l0 k (n : Nat) (rngL tqB (2 * i)) (i : Nat)) (rngL tqB (2 * n)) := by
    intro d
    induction d with
    | zero =>
      intro i hd hi
      obtain rfl : i = n := by omega
      exact Ev.step (fun k => by rw [spec_l3Flip.l0]) (Ev.neg (by omega) (Ev.const rfl))
    | succ d ih =>
      intro i hd hi
      have hF := rngL_two tqB i
      rw [tqB_even, tqB_odd] at hF
      refine Ev.step (fun k => by rw [spec_l3Flip.l0]) ?_
      rw [tq_w1 i (by omega), tq_w2 i (by omega), tq_w5 i (by omega)]
      refine Ev.pos (by omega) (Ev.bindc rfl (Ev.pos (by rw [rngL_length]; simp; omega) ?_))
      rw [hF]
      exact ih (i + 1) (by omega) (by omega)
  have k0 := key n 0 (by omega) (by omega)
  unfold spec_l3Flip.f
  exact k0
/-! ### spec_TutteQuad -/
theorem spec_TutteQuad_ev (t f : List Int) (hlt : t.length ≤ 1048576) (hlf : f.length ≤ 1048576) : Ev (fun k => spec_TutteQuad.f k t f) (tutM t f) := by
  have no : tutM t f = ([], [], false) → Ev (fun k => spec_TutteQuad.j0 k true t f) (tutM t f) := fun e => by
    rw [e]
    exact Ev.step (fun k => by rw [spec_TutteQuad.j0]) (Ev.pos rfl (Ev.const rfl))
  unfold spec_TutteQuad.f
  refine Ev.bind (spec_MapValid_ev t f hlt hlf) ?_
  by_cases h : MOK t f
  · have hz := h.size
    have ht := h.permT
    have hf := h.permF
    refine Ev.pos (dec_t h) ?_
    by_cases h6 : t.length ≤ 6
    · rw [decide_eq_false (by omega : ¬ (t.length : Int) > 6)]
      have hm := mulL_perm hf ht
      have hb := backL_perm hm
      have hT : tutM t f = (rngL (tqA t (backL (mulL f t))) (2 * t.length), rngL tqB (2 * t.length), true) := by unfold tutM; rw [if_pos (dec_t ⟨h, h6⟩)]
      rw [hT]
      refine Ev.step (fun k => by rw [spec_TutteQuad.j0]) ?_
      refine Ev.neg (by decide) ?_
      refine Ev.bind (spec_l2Faces_ev t.length (by omega) t f ht hf) ?_
      refine Ev.bind (spec_l1Back_ev t.length (by omega) _ hm) ?_
      refine Ev.bind (spec_l3Flip_ev t.length (by omega)) ?_
      generalize backL (mulL f t) = b at *
      have key : ∀ d i, t.length - i = d → i ≤ t.length → Ev (fun k => spec_TutteQuad.l0 k b (i : Nat) t f (rngL (tqA t b) (2 * i)) (rngL tqB (2 * t.length))) (rngL (tqA t b) (2 * t.length), rngL tqB (2 * t.length), true) := by
        intro d
        induction d with
        | zero =>
          intro i hd hi
          obtain rfl : i = t.length := by omega
          exact Ev.step (fun k => by rw [spec_TutteQuad.l0]) (Ev.neg (by omega) (Ev.const rfl))
        | succ d ih =>
          intro i hd hi
          have e1 := ht.1.fn (show i < t.length by omega)
          have e2 := hb.1.fn (show i < t.length by omega)
          have lb := hb.1.1
          refine Ev.step (fun k => by rw [spec_TutteQuad.l0]) ?_
          rw [e1.1, e2.1, tq_w3 t b i (by omega), tq_w4 t b i (by omega), tq_w5 i (by omega)]
          refine Ev.pos (by omega) (Ev.pos (by omega) (Ev.pos (by omega) (Ev.bindc rfl (Ev.pos (by rw [rngL_length]; simp; omega) ?_))))
          rw [rngL_two]
          exact ih (i + 1) (by omega) (by omega)
      exact key t.length 0 (by omega) (by omega)
    · rw [decide_eq_true (by omega : (t.length : Int) > 6)]
      exact no (by unfold tutM; rw [if_neg (by rw [dec_f (fun w => h6 w.2)]; decide)])
  · refine Ev.neg (by rw [dec_f h]; decide) ?_
    exact no (by unfold tutM; rw [if_neg (by rw [dec_f (fun w => h w.1)]; decide)])
/-! ### laws_sameInts -/
theorem laws_sameInts_ev (l m : List Int) (hl : l.length ≤ 4611686018427387904) : Ev (fun k => laws_sameInts.f k l m) (decide (l = m)) := by
  unfold laws_sameInts.f
  refine Ev.ite (fun h => ?_) (fun h => Ev.const ?_)
  · have h' : l.length = m.length := by omega
    have key : ∀ d i, l.length - i = d → i ≤ l.length → (∀ q : Nat, q < i → rd l (q : Int) = rd m (q : Int)) → Ev (fun k => laws_sameInts.l0 k l m (i : Nat)) (decide (l = m)) := by
      intro d
      induction d with
      | zero =>
        intro i hd hi hq
        refine Ev.step (fun k => by rw [laws_sameInts.l0]) (Ev.neg (by omega) (Ev.const ?_))
        rw [decide_eq_true (list_ext_rd h' (fun q hq' => hq q (by omega)))]
      | succ d ih =>
        intro i hd hi hq
        refine Ev.step (fun k => by rw [laws_sameInts.l0]) (Ev.pos (by omega) (Ev.pos (by omega) (Ev.pos (by omega) (Ev.ite (fun e => ?_) (fun e => Ev.const ?_)))))
        · rw [wrap64_id (by omega) (by omega)]
          exact ih (i + 1) (by omega) (by omega) (fun q hqi => by
            by_cases eq : q = i
            · subst eq; exact e
            · exact hq q (by omega))
        · rw [decide_eq_false]
          intro w; subst w; exact e rfl
    exact key l.length 0 (by omega) (by omega) (fun q hq => by omega)
  · rw [decide_eq_false]
    intro w; subst w; exact h rfl
/-! ### laws_sameMap -/
theorem laws_sameMap_ev (a b c d : List Int) (ha : a.length ≤ 1048576) (hb : b.length ≤ 1048576) : Ev (fun k => laws_sameMap.f k a b c d) (decide (a = c ∧ b = d)) := by
  unfold laws_sameMap.f
  refine Ev.bind (laws_sameInts_ev a c (by omega)) ?_
  by_cases h : a = c
  · refine Ev.pos (decide_eq_true h) (Ev.bind (laws_sameInts_ev b d (by omega)) (Ev.const ?_))
    rw [show decide (b = d) = decide (a = c ∧ b = d) from by simp [h]]
  · refine Ev.neg (by simp [h]) (Ev.const ?_)
    rw [decide_eq_false (fun w => h w.1)]
/-! ### impl_cyclesOf -/
theorem impl_cyclesOf_l1 {n : Nat} (hn : n ≤ 4194304) {p : List Int} (hp : PermL n p) {i : Nat} (hi : i < n) (hl : lstB (EF n (fn p)) i = true) (out : List (List Int)) (hout : out.length ≤ i) (r : List (List Int))
    (hr : ∀ b, SeenAt n (fn p) (i + 1) b → Ev (fun k => impl_cyclesOf.l0 k p (out ++ [cycOf (fn p) i]) b (n : Nat) (i + 1 : Nat)) r) :
    ∀ d t, per (fn p) i - t = d → t ≤ per (fn p) i → ∀ b, SeenIn n (fn p) i t b → Ev (fun k => impl_cyclesOf.l1 k p out b ((List.range t).map (fun k => (itr (fn p) k i : Int))) (itr (fn p) t i : Int) (n : Nat) (i : Nat)) r := by
  have hpm := hp.perm
  obtain ⟨q1, q2, q3, q4⟩ := per_spec hpm hi
  intro d
  induction d with
  | zero =>
    intro t hd ht b hb
    obtain rfl : t = per (fn p) i := by omega
    obtain ⟨c1, c2⟩ := hb.closed hpm hi
    have hlt := itr_lt hpm hi (per (fn p) i)
    have hbl := hb.1
    refine Ev.step (fun k => by rw [impl_cyclesOf.l1]) ?_
    rw [wrap64_id (x := (i : Int) + 1) (by omega) (by omega)]
    refine Ev.pos (by omega) (Ev.pos (by omega) (Ev.pos c1 (Ev.pos (by simp; omega) (Ev.pos (by omega) ?_))))
    exact hr b c2
  | succ d ih =>
    intro t hd ht b hb
    have hlt := itr_lt hpm hi t
    have hf := hb.fresh hpm hi hl (by omega)
    have hbl := hb.1
    have hpl := hp.1.1
    refine Ev.step (fun k => by rw [impl_cyclesOf.l1]) ?_
    refine Ev.pos (by omega) (Ev.pos (by omega) (Ev.neg (by rw [hf]; simp) (Ev.pos (by simp; omega) (Ev.pos (by omega) ?_))))
    rw [(hp.1.fn hlt).1, ← cycOf_take]
    exact ih (t + 1) (by omega) (by omega) _ (hb.next hpm hi)
theorem impl_cyclesOf_ev (n : Nat) (hn : n ≤ 4194304) (p : List Int) (hp : PermL n p) : Ev (fun k => impl_cyclesOf.f k p) (cycL n (fn p)) := by
  have hpm := hp.perm
  have hpl := hp.1.1
  have key : ∀ d i, n - i = d → i ≤ n → ∀ b, SeenAt n (fn p) i b → Ev (fun k => impl_cyclesOf.l0 k p (cycUp n (fn p) i) b (n : Nat) (i : Nat)) (cycL n (fn p)) := by
    intro d
    induction d with
    | zero =>
      intro i hd hi b hb
      obtain rfl : i = n := by omega
      refine Ev.step (fun k => by rw [impl_cyclesOf.l0]) ?_
      exact Ev.neg (by omega) (Ev.const rfl)
    | succ d ih =>
      intro i hd hi b hb
      have hi' : i < n := by omega
      have hbl := hb.1
      have hls := hb.least hi'
      refine Ev.step (fun k => by rw [impl_cyclesOf.l0]) (Ev.pos (by omega) ?_)
      cases q : rdOf false b (i : Int) with
      | true =>
        rw [q] at hls
        refine Ev.step (fun k => by rw [impl_cyclesOf.l1]) ?_
        rw [wrap64_id (x := (i : Int) + 1) (by omega) (by omega)]
        refine Ev.pos (by omega) (Ev.pos (by omega) (Ev.pos q (Ev.neg (by simp) ?_)))
        have := ih (i + 1) (by omega) (by omega) b (hb.skip hi' q)
        rw [cycUp_neg hls] at this
        exact this
      | false =>
        rw [q] at hls
        refine impl_cyclesOf_l1 hn hp hi' hls (cycUp n (fn p) i) (cycUp_length_le _ _ _) _ (fun b' hb' => ?_) (per (fn p) i) 0 (by omega) (by omega) b hb.into
        have := ih (i + 1) (by omega) (by omega) b' hb'
        rw [cycUp_pos hls] at this
        exact this
  unfold impl_cyclesOf.f
  rw [hpl]
  refine Ev.pos (by omega) (Ev.pos (by omega) ?_)
  exact key n 0 (by omega) (by omega) _ (SeenAt.start n _)
/-! ### impl_PermText -/
theorem ptx_inner {c : List Int} (h : Lo c) : ∀ x : Int, 1 ≤ x → ∃ t, impl_PermText.inner x c = some t ∧ t.data.toList = jT c := by
  induction c with
  | nil => intro x hx; exact ⟨⟨#[]⟩, by unfold impl_PermText.inner; rfl, rfl⟩
  | cons v c ih =>
    intro x hx
    have hv := h v (by simp)
    obtain ⟨t, h1, h2⟩ := ih (fun w hw => h w (by simp [hw])) (x + 1) (by omega)
    refine ⟨_, by rw [impl_PermText.inner, if_pos (by omega), h1]; rfl, ?_⟩
    have e : impl_PermText.sg x = ⟨#[44]⟩ := by unfold impl_PermText.sg; rw [if_neg (by omega)]
    rw [e]
    simp [impl_PermText.dg, h2, jT, dB]
theorem ptx_first {c : List Int} (h : Lo c) (hl : 1 ≤ c.length) : ∃ t, impl_PermText.inner 0 c = some t ∧ t.data.toList = 40 :: jC c := by
  cases c with
  | nil => simp at hl
  | cons v c =>
    have hv := h v (by simp)
    obtain ⟨t, h1, h2⟩ := ptx_inner (fun w hw => h w (by simp [hw]) : Lo c) 1 (by omega)
    refine ⟨_, by rw [impl_PermText.inner, if_pos (by omega), show (0 : Int) + 1 = 1 from rfl, h1]; rfl, ?_⟩
    have e : impl_PermText.sg 0 = ⟨#[40]⟩ := by unfold impl_PermText.sg; rw [if_pos rfl]
    rw [e]
    simp [impl_PermText.dg, h2, jC, dB]
theorem ptx_outer {cs : List (List Int)} (h : ∀ c ∈ cs, Lo c) : impl_PermText.outer cs = some ⟨(tP cs).toArray⟩ := by
  induction cs with
  | nil => rfl
  | cons c cs ih =>
    have ih' := ih (fun d hd => h d (by simp [hd]))
    simp only [impl_PermText.outer, tP]
    split
    · exact ih'
    · obtain ⟨t, h1, h2⟩ := ptx_first (h c (by simp)) (by omega)
      rw [h1, ih']
      simp only [Option.bind_some]
      refine congrArg some (xs_toList_inj ?_)
      simp [h2, tC]
theorem impl_PermText_ev {p : List Int} (h : POK p) : Ev (fun k => impl_PermText.f k p) (pTxt p) := by
  unfold impl_PermText.f
  refine Ev.bindc (impl_PermValid_eq p) ?_
  refine Ev.pos (dec_t h) ?_
  have h12 := h.1.2
  refine Ev.bind (impl_cyclesOf_ev p.length (by omega) p h.2) ?_
  refine Ev.bindc (ptx_outer (cyP_lo h)) ?_
  have hs : (⟨(tP (cycL p.length (fn p))).toArray⟩ : ByteArray).size = (txP p).length := by show (tP (cyP p)).toArray.size = _; simp [txP]
  have hl := txP_len h
  refine Ev.pos ⟨by rw [hs]; omega, ?_, fun c hc => ?_⟩ ?_
  · rw [cycL_length]; have := cyc_le p.length (fn p); omega
  · obtain ⟨i, hi, e⟩ := List.getElem_of_mem hc
    have := (cycL_face h.2.perm hi).1
    rw [rdL_nat _ _ hi, e] at this
    omega
  · unfold pTxt
    by_cases e : txP p = []
    · rw [if_pos e]
      exact Ev.pos (by rw [hs, e]; rfl) (Ev.const rfl)
    · rw [if_neg e]
      refine Ev.neg (fun w => e ?_) (Ev.const rfl)
      rw [hs] at w
      exact List.length_eq_zero_iff.1 w
/-! ### impl_numberOf -/
theorem impl_numberOf_ex (s : ByteArray) : ∃ n, Ev (fun k => impl_numberOf.f k s) n := by
  have key : ∀ d i n, s.size - i = d → i ≤ s.size → s.size ≤ 2 → ∃ r, Ev (fun k => impl_numberOf.l0 k s n (s.size : Int) (i : Nat)) r := by
    intro d
    induction d with
    | zero =>
      intro i n hd hi hs
      exact ⟨n, Ev.step (fun k => by rw [impl_numberOf.l0]) (Ev.neg (by omega) (Ev.const rfl))⟩
    | succ d ih =>
      intro i n hd hi hs
      obtain ⟨r, hr⟩ := ih (i + 1) (wrap64 ((wrap64 (n * 10)) + (((bt s (i : Nat)) - 48) % 256))) (by omega) (by omega) hs
      by_cases h1 : bt s (i : Nat) < 48
      · exact ⟨-1, Ev.step (fun k => by rw [impl_numberOf.l0]) (Ev.pos (by omega) (Ev.pos (by omega) (Ev.pos (by omega) (Ev.pos h1 (Ev.const rfl)))))⟩
      · by_cases h2 : bt s (i : Nat) > 57
        · exact ⟨-1, Ev.step (fun k => by rw [impl_numberOf.l0]) (Ev.pos (by omega) (Ev.pos (by omega) (Ev.pos (by omega) (Ev.neg h1 (Ev.pos h2 (Ev.const rfl))))))⟩
        · refine ⟨r, Ev.step (fun k => by rw [impl_numberOf.l0]) (Ev.pos (by omega) (Ev.pos (by omega) (Ev.pos (by omega) (Ev.neg h1 (Ev.neg h2 ?_)))))⟩
          rw [wrap64_id (x := ((i : Nat) : Int) + 1) (by omega) (by omega)]
          exact hr
  by_cases h0 : (s.size : Int) < 1
  · refine ⟨-1, ?_⟩
    unfold impl_numberOf.f
    refine Ev.pos h0 (Ev.step (fun k => by rw [impl_numberOf.j0]) (Ev.pos rfl (Ev.const rfl)))
  · by_cases h2 : (s.size : Int) > 2
    · refine ⟨-1, ?_⟩
      unfold impl_numberOf.f
      refine Ev.neg h0 (Ev.step (fun k => by rw [impl_numberOf.j0]) (Ev.pos (decide_eq_true h2) (Ev.const rfl)))
    · obtain ⟨r, hr⟩ := key _ 0 0 rfl (by omega) (by omega)
      refine ⟨r, ?_⟩
      unfold impl_numberOf.f
      refine Ev.neg h0 (Ev.step (fun k => by rw [impl_numberOf.j0]) ?_)
      exact Ev.neg (by rw [decide_eq_false h2]; decide) hr
theorem dec_one : ∀ n : Fin 10, (⟨(Lib.decDigits n.val).toArray⟩ : ByteArray).size = 1 ∧ bt ⟨(Lib.decDigits n.val).toArray⟩ 0 = 48 + (n.val : Int) := by decide +kernel
theorem dec_two : ∀ n : Fin 100, 10 ≤ n.val → (⟨(Lib.decDigits n.val).toArray⟩ : ByteArray).size = 2 ∧ bt ⟨(Lib.decDigits n.val).toArray⟩ 0 = 48 + ((n.val / 10 : Nat) : Int) ∧ bt ⟨(Lib.decDigits n.val).toArray⟩ 1 = 48 + ((n.val % 10 : Nat) : Int) := by decide +kernel
/-- The number of a text of digits. -/
theorem impl_numberOf_dec (n : Nat) (h : n < 100) : Ev (fun k => impl_numberOf.f k ⟨(Lib.decDigits n).toArray⟩) (n : Int) := by
  obtain ⟨s, hs⟩ : ∃ s : ByteArray, (⟨(Lib.decDigits n).toArray⟩ : ByteArray) = s := ⟨_, rfl⟩
  rw [hs]
  by_cases h0 : n < 10
  · obtain ⟨z, b0⟩ : s.size = 1 ∧ bt s 0 = 48 + (n : Int) := by rw [← hs]; exact dec_one ⟨n, h0⟩
    unfold impl_numberOf.f
    refine Ev.neg (by omega) (Ev.step (fun k => by rw [impl_numberOf.j0]) (Ev.neg (by rw [decide_eq_false (by omega)]; decide) ?_))
    refine Ev.step (fun k => by rw [impl_numberOf.l0]) ?_
    refine Ev.pos (by omega) (Ev.pos (by omega) (Ev.pos (by omega) (Ev.neg (by omega) (Ev.neg (by omega) ?_))))
    refine Ev.step (fun k => by rw [impl_numberOf.l0]) ?_
    refine Ev.neg (by unfold wrap64; omega) (Ev.const ?_)
    rw [b0, show wrap64 (0 * 10) = 0 by unfold wrap64; omega, show (48 + (n : Int) - 48) % 256 = (n : Int) by omega, wrap64_id (by omega) (by omega)]
    simp
  · obtain ⟨z, b0, b1⟩ : s.size = 2 ∧ bt s 0 = 48 + ((n / 10 : Nat) : Int) ∧ bt s 1 = 48 + ((n % 10 : Nat) : Int) := by rw [← hs]; exact dec_two ⟨n, h⟩ (show 10 ≤ n by omega)
    unfold impl_numberOf.f
    refine Ev.neg (by omega) (Ev.step (fun k => by rw [impl_numberOf.j0]) (Ev.neg (by rw [decide_eq_false (by omega)]; decide) ?_))
    refine Ev.step (fun k => by rw [impl_numberOf.l0]) ?_
    refine Ev.pos (by omega) (Ev.pos (by omega) (Ev.pos (by omega) (Ev.neg (by omega) (Ev.neg (by omega) ?_))))
    rw [b0, show wrap64 (0 * 10) = 0 by unfold wrap64; omega, show (48 + ((n / 10 : Nat) : Int) - 48) % 256 = ((n / 10 : Nat) : Int) by omega, wrap64_id (x := 0 + ((n / 10 : Nat) : Int)) (by omega) (by omega), show wrap64 (0 + 1) = 1 by unfold wrap64; omega]
    refine Ev.step (fun k => by rw [impl_numberOf.l0]) ?_
    refine Ev.pos (by omega) (Ev.pos (by omega) (Ev.pos (by omega) (Ev.neg (by omega) (Ev.neg (by omega) ?_))))
    rw [b1, show (48 + ((n % 10 : Nat) : Int) - 48) % 256 = ((n % 10 : Nat) : Int) by omega, wrap64_id (x := (0 + ((n / 10 : Nat) : Int)) * 10) (by omega) (by omega), wrap64_id (x := (0 + ((n / 10 : Nat) : Int)) * 10 + ((n % 10 : Nat) : Int)) (by omega) (by omega), show wrap64 (1 + 1) = 2 by unfold wrap64; omega]
    refine Ev.step (fun k => by rw [impl_numberOf.l0]) ?_
    refine Ev.neg (by omega) (Ev.const ?_)
    congr 1
    omega
/-! ### impl_PermFrom -/
/-- Where some points have been sent on and the others not. -/
def Part (p : List Int) (S : Nat → Prop) (x : List Int) : Prop := x.length = p.length ∧ ∀ i : Nat, i < p.length → (S i → rd x (i : Int) = rd p (i : Int)) ∧ (¬ S i → rd x (i : Int) = (i : Int))
theorem Part.congr {p : List Int} {S S' : Nat → Prop} {x : List Int} (h : Part p S x) (he : ∀ i, i < p.length → (S i ↔ S' i)) : Part p S' x :=
  ⟨h.1, fun i hi => ⟨fun s => (h.2 i hi).1 ((he i hi).2 s), fun s => (h.2 i hi).2 (fun q => s ((he i hi).1 q))⟩⟩
theorem Part.set {p : List Int} {S : Nat → Prop} {x : List Int} (h : Part p S x) {v : Nat} (hv : v < p.length) : Part p (fun i => S i ∨ i = v) (x.set v (rd p (v : Int))) := by
  refine ⟨by rw [List.length_set]; exact h.1, fun i hi => ?_⟩
  by_cases e : v = i
  · subst e
    refine ⟨fun _ => rd_set_self _ _ _ (by rw [h.1]; exact hv), fun q => absurd (.inr rfl) q⟩
  · rw [rd_set_ne _ _ _ _ e]
    exact ⟨fun s => (h.2 i hi).1 (s.elim id (fun q => absurd q.symm e)), fun s => (h.2 i hi).2 (fun q => s (.inl q))⟩
theorem Part.full {p : List Int} {S : Nat → Prop} {x : List Int} (h : Part p S x) (hf : ∀ i, i < p.length → S i) : x = p :=
  list_ext_rd h.1 (fun i hi => (h.2 i (by rw [← h.1]; exact hi)).1 (hf i (by rw [← h.1]; exact hi)))
def pieces (c : List Int) : List ByteArray := c.map (fun v => (⟨(dB v).toArray⟩ : ByteArray))
theorem pieces_at (c : List Int) (i : Nat) (h : i < c.length) : rdOf ByteArray.empty (pieces c) (i : Int) = ⟨(dB (rd c (i : Int))).toArray⟩ := by
  rw [rd_nat c i h]
  simp [rdOf, pieces, List.getD_eq_getElem?_getD, h]
theorem atoi_at {v : Int} (h : 0 ≤ v ∧ v < 12) : strconv_Atoi.f ⟨(dB v).toArray⟩ = some (v, none) := by
  obtain ⟨h1, h2, h3, h4⟩ := dB_of h
  unfold strconv_Atoi.f
  rw [if_pos (by show (dB v).toArray.size ≤ 18; simp; omega)]
  have e : ((⟨(dB v).toArray⟩ : ByteArray)).data.toList = dB v := by simp
  rw [e, h4]; rfl
section
variable {n : Nat} {s : ByteArray} {more : ByteArray} {r : List Int × Bool}
theorem pf_l1 {c : List Int} (hc : Lo c) (hn : ∀ v ∈ c, v < (n : Int)) (hlen : c.length ≤ 12) {x : List Int} (h2 : Ev (fun k => impl_PermFrom.l2 k (n : Nat) s x more c c (c.length : Int) (0 : Nat)) r) :
    ∀ d i, c.length - i = d → i ≤ c.length → Ev (fun k => impl_PermFrom.l1 k (n : Nat) s x more (c.take i) (pieces c) (c.length : Int) (i : Nat)) r := by
  have hpl : (pieces c).length = c.length := by simp [pieces]
  intro d
  induction d with
  | zero =>
    intro i hd hi
    obtain rfl : i = c.length := by omega
    refine Ev.step (fun k => by rw [impl_PermFrom.l1]) (Ev.neg (by omega) ?_)
    rw [List.take_length]
    exact h2
  | succ d ih =>
    intro i hd hi
    have hi' : i < c.length := by omega
    have hm : rd c (i : Int) ∈ c := by rw [rd_nat c i hi']; exact List.getElem_mem hi'
    have hv := hc _ hm
    have hvn := hn _ hm
    refine Ev.step (fun k => by rw [impl_PermFrom.l1]) ?_
    refine Ev.pos (by omega) (Ev.pos (by omega) (Ev.pos (by omega) ?_))
    rw [pieces_at c i hi']
    refine Ev.bindc (atoi_at hv) ?_
    refine Ev.pos rfl ?_
    refine Ev.neg (by show ¬ rd c (i : Int) < 0; omega) ?_
    refine Ev.neg (by show ¬ rd c (i : Int) ≥ (n : Int); omega) ?_
    refine Ev.pos (by rw [List.length_take]; omega) ?_
    rw [wrap64_id (x := (i : Int) + 1) (by omega) (by omega)]
    have e : c.take i ++ [rd c (i : Int)] = c.take (i + 1) := by rw [rd_nat c i hi', List.take_succ_eq_append_getElem hi']
    show Ev (fun k => impl_PermFrom.l1 k (n : Nat) s x more (c.take i ++ [rd c (i : Int)]) (pieces c) (c.length : Int) ((i + 1 : Nat) : Int)) r
    rw [e]
    exact ih (i + 1) (by omega) (by omega)
theorem pf_l2 {p : List Int} {c : List Int} (hc : CycOk p.length (fn p) c) (hp : Pts p.length p) (hlen : c.length ≤ 12) {S : Nat → Prop}
    (h0 : ∀ x, Part p (fun i => S i ∨ Holds c (i : Int)) x → Ev (fun k => impl_PermFrom.l0 k (n : Nat) s x more) r) :
    ∀ d i, c.length - i = d → i ≤ c.length → ∀ x, Part p (fun q => S q ∨ ∃ j : Nat, j < i ∧ rd c (j : Int) = (q : Int)) x → Ev (fun k => impl_PermFrom.l2 k (n : Nat) s x more c c (c.length : Int) (i : Nat)) r := by
  intro d
  induction d with
  | zero =>
    intro i hd hi x hx
    obtain rfl : i = c.length := by omega
    refine Ev.step (fun k => by rw [impl_PermFrom.l2]) (Ev.neg (by omega) ?_)
    exact h0 x (hx.congr (fun q hq => ⟨id, id⟩))
  | succ d ih =>
    intro i hd hi x hx
    have hi' : i < c.length := by omega
    obtain ⟨v, v1, v2, v3⟩ := hc.2 i hi'
    have hxl := hx.1
    have em : Int.tmod (wrap64 ((i : Int) + 1)) (c.length : Int) = (((i + 1) % c.length : Nat) : Int) := by
      rw [wrap64_id (x := (i : Int) + 1) (by omega) (by omega)]
      exact (Int.ofNat_tmod (i + 1) c.length).symm
    have hlt := Nat.mod_lt (i + 1) (by omega : 0 < c.length)
    refine Ev.step (fun k => by rw [impl_PermFrom.l2]) ?_
    rw [em, v2, v3]
    refine Ev.pos (by omega) (Ev.pos (by omega) (Ev.pos (by omega) (Ev.neg (by omega) (Ev.pos (by omega) (Ev.pos (by omega) (Ev.pos (by omega) (Ev.pos (by omega) ?_)))))))
    rw [wrap64_id (x := (i : Int) + 1) (by omega) (by omega), ← (hp.fn v1).1]
    refine ih (i + 1) (by omega) (by omega) _ ((hx.set v1).congr (fun q hq => ⟨?_, ?_⟩))
    · rintro ((h | ⟨j, hj, e⟩) | rfl)
      · exact .inl h
      · exact .inr ⟨j, by omega, e⟩
      · exact .inr ⟨i, by omega, v2⟩
    · rintro (h | ⟨j, hj, e⟩)
      · exact .inl (.inl h)
      · by_cases q : j = i
        · subst q; rw [v2] at e; exact .inr (by omega)
        · exact .inl (.inr ⟨j, by omega, e⟩)
end
theorem cut_tC {c : List Int} (h : Lo c) (more : List UInt8) : Lib.cut (jC c ++ 41 :: more) [41] = (jC c, more, true) := by
  have hf : (41 : UInt8) ∉ jC c := fun hm => by have := jC_sign h _ hm; simp at this
  have e : Lib.index (jC c ++ 41 :: more) [41] = ((jC c).length : Int) := by rw [Lib.index_one, xs_idx_hit 41 _ _ hf]
  unfold Lib.cut
  rw [e, if_pos (by omega)]
  simp
theorem toList_nil {a : ByteArray} {l : List UInt8} (h : a.data.toList = l) : a.toList = l := by rw [toList_data]; exact h
theorem impl_PermFrom_ev {p : List Int} (h : POK p) : Ev (fun k => impl_PermFrom.f k (p.length : Int) (pTxt p)) (p, true) := by
  have h1 := h.1.1
  have h12 := h.1.2
  have hP := h.2.perm
  have done : ∀ x, x = p → ∀ rest : ByteArray, Ev (fun k => impl_PermFrom.j2 k (p.length : Int) (pTxt p) x rest false) (p, true) := by
    intro x hx rest
    subst hx
    refine Ev.step (fun k => by rw [impl_PermFrom.j2]) (Ev.neg (by decide) ?_)
    refine Ev.bind (impl_PermText_ev h) ?_
    exact Ev.pos rfl (Ev.const rfl)
  unfold impl_PermFrom.f
  refine Ev.neg (by omega) ?_
  refine Ev.step (fun k => by rw [impl_PermFrom.j0]) (Ev.neg (by rw [decide_eq_false (by omega)]; decide) ?_)
  refine Ev.bind (impl_still_ev p.length (by omega)) ?_
  by_cases he : txP p = []
  · -- nothing moves
    have hpt : pTxt p = ⟨#[40, 41]⟩ := by unfold pTxt; rw [if_pos he]
    have hid : idL p.length = p := by
      refine list_ext_rd (idL_length _) (fun i hi => ?_)
      rw [idL_length] at hi
      rw [rd_idL _ _ hi]
      obtain ⟨c, hc, j, hj, e⟩ := cycL_all hP hi
      have hok := cyP_ok h hc
      have hl : c.length < 2 := by
        by_cases q : c.length < 2
        · exact q
        · exfalso
          have key : ∀ cs : List (List Int), c ∈ cs → tP cs ≠ [] := by
            intro cs
            induction cs with
            | nil => intro hm; simp at hm
            | cons d cs ih =>
              intro hm
              simp only [tP]
              split
              · rename_i hd
                rcases List.mem_cons.1 hm with rfl | hm
                · exact absurd hd q
                · exact ih hm
              · simp [tC]
          exact key _ hc he
      obtain ⟨v, v1, v2, v3⟩ := hok.2 j hj
      have hj0 : j = 0 := by omega
      have hc1 : c.length = 1 := by have := hok.1; omega
      subst hj0
      rw [hc1] at v3
      have : rd c ((0 : Nat) : Int) = (fn p v : Int) := v3
      rw [e] at this v2
      have hvi : v = i := by omega
      subst hvi
      rw [(h.2.1.fn hi).1]
      exact this
    refine Ev.step (fun k => by rw [impl_PermFrom.l0]) ?_
    have hlst : (pTxt p).toList = [40, 41] := by rw [hpt]; exact toList_nil rfl
    refine Ev.neg (by rw [hlst]; decide) ?_
    rw [hlst, show (([40, 41] : List UInt8) != ([40, 41] : List UInt8)) = false from rfl]
    exact done _ hid _
  · have hpt : pTxt p = ⟨(txP p).toArray⟩ := by unfold pTxt; rw [if_neg he]
    have hdata : (pTxt p).data.toList = txP p := by rw [hpt]
    have hne : ((pTxt p).toList != ([40, 41] : List UInt8)) = true := by
      rw [toList_nil hdata]
      have key : ∀ cs : List (List Int), (∀ c ∈ cs, Lo c) → (tP cs != ([40, 41] : List UInt8)) = true := by
        intro cs
        induction cs with
        | nil => intro _; rfl
        | cons c cs ih =>
          intro hlo
          simp only [tP]
          split
          · exact ih (fun d hd => hlo d (by simp [hd]))
          · rename_i hcl
            cases c with
            | nil => simp at hcl
            | cons v c =>
              obtain ⟨d1, d2, d3, d4⟩ := dB_of (hlo (v :: c) (by simp) v (by simp))
              cases hd : dB v with
              | nil => rw [hd] at d2; simp at d2
              | cons b bs =>
                have hb := d3 b (by rw [hd]; simp)
                have : b ≠ 41 := fun e => by subst e; simp at hb
                simp [tC, jC, hd, this]
      exact key _ (cyP_lo h)
    have key : ∀ cs : List (List Int), (∀ c ∈ cs, CycOk p.length (fn p) c ∧ Lo c ∧ c.length ≤ 12) → ∀ (S : Nat → Prop) (x : List Int) (rest : ByteArray), rest.data.toList = tP cs → rest.size ≤ 48 → Part p S x →
        (∀ i, i < p.length → S i ∨ ∃ c ∈ cs, Holds c (i : Int)) → Ev (fun k => impl_PermFrom.l0 k (p.length : Int) (pTxt p) x rest) (p, true) := by
      intro cs
      induction cs with
      | nil =>
        intro _ S x rest hr hrs hx hcov
        refine Ev.step (fun k => by rw [impl_PermFrom.l0]) (Ev.pos (show rest.toList = [] from toList_nil hr) ?_)
        exact done x (hx.full (fun i hi => by
          rcases hcov i hi with q | ⟨c, hc, _⟩
          · exact q
          · simp at hc)) rest
      | cons c cs ih =>
        intro hcs S x rest hr hrs hx hcov
        obtain ⟨hok, hlo, hl12⟩ := hcs c (by simp)
        have hcs' : ∀ d ∈ cs, CycOk p.length (fn p) d ∧ Lo d ∧ d.length ≤ 12 := fun d hd => hcs d (by simp [hd])
        have hcov' : ∀ i, i < p.length → (S i ∨ Holds c (i : Int)) ∨ ∃ d ∈ cs, Holds d (i : Int) := fun i hi => by
          rcases hcov i hi with q | ⟨d, hd, q⟩
          · exact .inl (.inl q)
          · rcases List.mem_cons.1 hd with rfl | hd
            · exact .inl (.inr q)
            · exact .inr ⟨d, hd, q⟩
        simp only [tP] at hr
        by_cases hcl : c.length < 2
        · rw [if_pos hcl] at hr
          refine ih hcs' (fun i => S i ∨ Holds c (i : Int)) x rest hr hrs ⟨hx.1, fun i hi => ⟨fun q => ?_, fun q => (hx.2 i hi).2 (fun w => q (.inl w))⟩⟩ hcov'
          by_cases hS : S i
          · exact (hx.2 i hi).1 hS
          · rcases q with q | ⟨j, hj, e⟩
            · exact absurd q hS
            · rw [(hx.2 i hi).2 hS]
              obtain ⟨v, v1, v2, v3⟩ := hok.2 j hj
              have hj0 : j = 0 := by omega
              have hc1 : c.length = 1 := by have := hok.1; omega
              subst hj0
              rw [hc1] at v3
              have v3' : rd c ((0 : Nat) : Int) = (fn p v : Int) := v3
              rw [e] at v2 v3'
              have hvi : v = i := by omega
              subst hvi
              rw [(h.2.1.fn hi).1]
              exact v3'
        · rw [if_neg hcl] at hr
          have hr' : rest.data.toList = 40 :: (jC c ++ 41 :: tP cs) := by rw [hr]; simp [tC]
          have hmem : ∀ v ∈ c, v < (p.length : Int) := fun v hv => by
            obtain ⟨j, hj, e⟩ := List.getElem_of_mem hv
            obtain ⟨u, u1, u2, _⟩ := hok.2 j hj
            rw [rd_nat _ _ hj, e] at u2
            omega
          have hin : strings_CutPrefix.f rest ⟨#[40]⟩ = some (⟨(jC c ++ 41 :: tP cs).toArray⟩, true) := by
            unfold strings_CutPrefix.f
            rw [hr']
            have e1 : Lib.hasPrefix (40 :: (jC c ++ 41 :: tP cs)) [40] = true := by simp [Lib.hasPrefix]
            have e2 : Lib.trimPrefix (40 :: (jC c ++ 41 :: tP cs)) [40] = jC c ++ 41 :: tP cs := by simp [Lib.trimPrefix, Lib.hasPrefix]
            show some ((⟨(Lib.trimPrefix (40 :: (jC c ++ 41 :: tP cs)) [40]).toArray⟩ : ByteArray), Lib.hasPrefix (40 :: (jC c ++ 41 :: tP cs)) [40]) = _
            rw [e1, e2]
          have hzr : rest.size = (jC c).length + (tP cs).length + 2 := by
            have : rest.data.toList.length = rest.size := by rw [Array.length_toList]; rfl
            rw [← this, hr']; simp; omega
          have hcut : strings_Cut.f ⟨(jC c ++ 41 :: tP cs).toArray⟩ ⟨#[41]⟩ = some (⟨(jC c).toArray⟩, ⟨(tP cs).toArray⟩, true) := by
            unfold strings_Cut.f
            have hz : (⟨(jC c ++ 41 :: tP cs).toArray⟩ : ByteArray).size ≤ 1000000 := by show (jC c ++ 41 :: tP cs).toArray.size ≤ 1000000; simp; omega
            rw [if_pos ⟨rfl, hz⟩]
            show some ((⟨(Lib.cut (jC c ++ 41 :: tP cs) [41]).1.toArray⟩ : ByteArray), (⟨(Lib.cut (jC c ++ 41 :: tP cs) [41]).2.1.toArray⟩ : ByteArray), (Lib.cut (jC c ++ 41 :: tP cs) [41]).2.2) = _
            rw [cut_tC hlo]
          have hsp : strings_Split.f ⟨(jC c).toArray⟩ ⟨#[44]⟩ = some (pieces c) := by
            unfold strings_Split.f
            have hz : (⟨(jC c).toArray⟩ : ByteArray).size ≤ 1000000 := by show (jC c).toArray.size ≤ 1000000; simp; omega
            rw [if_pos ⟨rfl, hz⟩]
            refine congrArg some (xs_splitB_of 44 _ _ ?_)
            have : (⟨(jC c).toArray⟩ : ByteArray).data.toList = jC c := by simp
            rw [this, split_jC hlo (by omega)]
            simp [pieces]
          refine Ev.step (fun k => by rw [impl_PermFrom.l0]) ?_
          refine Ev.neg (by rw [toList_nil hr']; simp) ?_
          rw [hne]
          refine Ev.step (fun k => by rw [impl_PermFrom.j2]) (Ev.pos rfl ?_)
          refine Ev.bindc hin (Ev.bindc hcut ?_)
          refine Ev.pos rfl ?_
          refine Ev.step (fun k => by rw [impl_PermFrom.j3]) (Ev.neg (by simp) ?_)
          refine Ev.bindc hsp ?_
          have hpl : (pieces c).length = c.length := by simp [pieces]
          rw [hpl]
          have l1 := pf_l1 (n := p.length) (s := pTxt p) (more := ⟨(tP cs).toArray⟩) (r := (p, true)) hlo hmem hl12 (x := x)
            (pf_l2 (n := p.length) (s := pTxt p) (more := ⟨(tP cs).toArray⟩) (r := (p, true)) hok h.2.1 hl12 (S := S)
              (fun x' hx' => ih hcs' _ x' _ (by simp) (by show (tP cs).toArray.size ≤ 48; simp; omega) hx' hcov') _ 0 rfl (by omega) x (hx.congr (fun q hq => ⟨.inl, fun w => w.elim id (fun ⟨j, hj, _⟩ => absurd hj (by omega))⟩))) _ 0 rfl (by omega)
          exact l1
    refine key (cyP p) (fun c hc => ⟨cyP_ok h hc, cyP_lo h c hc, ?_⟩) (fun _ => False) (idL p.length) (pTxt p) hdata (pTxt_size h) ⟨idL_length _, fun i hi => ⟨fun q => q.elim, fun _ => rd_idL _ _ hi⟩⟩ (fun i hi => .inr (cycL_all hP hi))
    obtain ⟨i, hi, e⟩ := List.getElem_of_mem (show c ∈ cycL p.length (fn p) from hc)
    have := (cycL_face hP hi).1
    rw [rdL_nat _ _ hi, e] at this
    omega
/-! ### impl_Execute -/
theorem xe_lines (t : ByteArray) (l : List ByteArray) (h : Lib.split t.data.toList [10] = l.map (·.data.toList)) : XE.linesOf t = l := xs_splitB_of 10 t l h
theorem xe_words (t : ByteArray) (l : List ByteArray) (h : Lib.split t.data.toList [32] = l.map (·.data.toList)) : XE.wordsOf t = l := xs_splitB_of 32 t l h
theorem xe_nil (x : ByteArray) : (⟨#[]⟩ : ByteArray) ++ x = x := by
  show ByteArray.empty ++ x = x
  simp
/-- A text of so many lines, each with its end. -/
theorem xe_split (ls : List ByteArray) (h : ∀ l ∈ ls, (10 : UInt8) ∉ l.data.toList) : Lib.split (ls.flatMap (fun l => l.data.toList ++ [10])) [10] = ls.map (·.data.toList) ++ [[]] := by
  induction ls with
  | nil => exact xs_split_free 10 [] (by simp)
  | cons l ls ih =>
    have e : (l :: ls).flatMap (fun l => l.data.toList ++ [10]) = l.data.toList ++ 10 :: ls.flatMap (fun l => l.data.toList ++ [10]) := by simp
    rw [e, xs_split_hit 10 _ _ (h l (by simp)), ih (fun m hm => h m (by simp [hm]))]
    rfl
theorem xe_linesOf {t : ByteArray} {ls : List ByteArray} (h : ∀ l ∈ ls, (10 : UInt8) ∉ l.data.toList) (ht : t.data.toList = ls.flatMap (fun l => l.data.toList ++ [10])) : (XE.linesOf t).dropLast = ls := by
  have : XE.linesOf t = ls ++ [⟨#[]⟩] := xe_lines t _ (by rw [ht, xe_split ls h]; simp)
  rw [this, List.dropLast_concat]
theorem xe_step {F : Nat → List Int → List Int → List ByteArray → Option (ByteArray × List Int × List Int)} {l : ByteArray} {ls : List ByteArray} {T U T1 U1 : List Int} {o c : ByteArray} {r : List Int × List Int × ByteArray} {ws : List ByteArray} (hl : l.size ≤ 500) (hw : XE.wordsOf l = ws) (hF : Ev (fun k => F k T U ws) (c, T1, U1)) (hc : c.size ≤ 100000)
    (hr : Ev (fun k => XE.go (F k) ls T1 U1 (o ++ (c ++ ⟨#[10]⟩))) r) : Ev (fun k => XE.go (F k) (l :: ls) T U o) r := by
  refine Ev.congr (fun k => by rw [XE.go]) ?_
  refine Ev.pos hl ?_
  rw [hw]
  exact Ev.bind hF (Ev.pos hc hr)
theorem xe_end {F : Nat → List Int → List Int → List ByteArray → Option (ByteArray × List Int × List Int)} {T U : List Int} {o : ByteArray} : Ev (fun k => XE.go (F k) [] T U o) (T, U, o) := Ev.congr (fun k => by rw [XE.go]) (Ev.const rfl)
theorem xe_word (l : ByteArray) (h : (32 : UInt8) ∉ l.data.toList) : XE.wordsOf l = [l] := xe_words l [l] (by rw [xs_split_free 32 _ h]; rfl)
/-! ### laws_digits -/
theorem digits_lo : ∀ n : Fin 10, (strOfNums [(wrap64 (48 + (n.val : Int))) % 256] : ByteArray) = ⟨(Lib.decDigits n.val).toArray⟩ := by decide +kernel
theorem digits_hi : ∀ n : Fin 100, 10 ≤ n.val → (strOfNums [(wrap64 (48 + ((n.val / 10 : Nat) : Int))) % 256] ++ strOfNums [(wrap64 (48 + (Int.tmod (n.val : Int) 10))) % 256] : ByteArray) = ⟨(Lib.decDigits n.val).toArray⟩ := by decide +kernel
theorem laws_digits_ev (n : Nat) (h : n < 100) : Ev (fun k => laws_digits.f k (n : Int)) ⟨(Lib.decDigits n).toArray⟩ := by
  have z : ∀ x : Int, (strOfNums [x]).size = 1 := fun x => rfl
  have low : ∀ m : Nat, m < 10 → Ev (fun k => laws_digits.f k (m : Int)) (strOfNums [(wrap64 (48 + (m : Int))) % 256]) := fun m hm =>
    Ev.step (fun k => by rw [laws_digits.f]) (Ev.pos (by omega) (Ev.const rfl))
  by_cases h0 : n < 10
  · exact Ev.to (low n h0) (digits_lo ⟨n, h0⟩)
  · refine Ev.step (fun k => by rw [laws_digits.f]) (Ev.neg (by omega) ?_)
    have e : wrap64 (Int.tdiv (n : Int) 10) = ((n / 10 : Nat) : Int) := by
      rw [show Int.tdiv (n : Int) 10 = ((n / 10 : Nat) : Int) from (Int.ofNat_tdiv _ _).symm, wrap64_id (by omega) (by omega)]
    rw [e]
    refine Ev.bind (low (n / 10) (by omega)) ?_
    refine Ev.bindc rfl ?_
    exact Ev.pos (by rw [z, z]; omega) (Ev.const (congrArg some (digits_hi ⟨n, h⟩ (show 10 ≤ n by omega))))
theorem endline_size : ∀ n : Fin 100, (⟨(Lib.decDigits n.val).toArray⟩ : ByteArray).size ≤ 2 := by decide +kernel
/-! ### laws_mapLine -/
theorem dec_size (n : Nat) (h : n < 100) : (⟨(Lib.decDigits n).toArray⟩ : ByteArray).size ≤ 2 := endline_size ⟨n, h⟩
/-- The line that sets a map, without its end. -/
noncomputable def lineM (t f : List Int) : ByteArray := ((((⟨#[109, 97, 112, 32]⟩ : ByteArray) ++ ⟨(Lib.decDigits t.length).toArray⟩) ++ ⟨#[32]⟩) ++ pTxt t) ++ ⟨#[32]⟩ ++ pTxt f
theorem z1_ (b : UInt8) : (⟨#[b]⟩ : ByteArray).size = 1 := rfl
theorem laws_mapLine_ev {t f : List Int} (ht : POK t) (hf : POK f) : Ev (fun k => laws_mapLine.f k t f) (lineM t f ++ ⟨#[10]⟩) := by
  have h12 := ht.1.2
  have d := dec_size t.length (by omega)
  have s1 := pTxt_size ht
  have s2 := pTxt_size hf
  have z4 : (⟨#[109, 97, 112, 32]⟩ : ByteArray).size = 4 := rfl
  unfold laws_mapLine.f
  refine Ev.bind (laws_digits_ev t.length (by omega)) ?_
  refine Ev.pos (by omega) (Ev.pos (by rw [ByteArray.size_append, z4]; omega) ?_)
  refine Ev.bind (impl_PermText_ev ht) ?_
  refine Ev.pos (by simp only [ByteArray.size_append, z4, z1_]; omega) (Ev.pos (by simp only [ByteArray.size_append, z4, z1_]; omega) ?_)
  refine Ev.bind (impl_PermText_ev hf) ?_
  refine Ev.pos (by simp only [ByteArray.size_append, z4, z1_]; omega) (Ev.pos (by simp only [ByteArray.size_append, z4, z1_]; omega) (Ev.const rfl))
theorem lineM_size {t f : List Int} (ht : POK t) (hf : POK f) : (lineM t f).size ≤ 110 := by
  have h12 := ht.1.2
  have d := dec_size t.length (by omega)
  have s1 := pTxt_size ht
  have s2 := pTxt_size hf
  have z4 : (⟨#[109, 97, 112, 32]⟩ : ByteArray).size = 4 := rfl
  unfold lineM
  simp only [ByteArray.size_append, z4, z1_]
  omega
/-! ### laws_shown -/
noncomputable def lineS (t f : List Int) : ByteArray := (pTxt t ++ ⟨#[32]⟩) ++ pTxt f
theorem lineS_size {t f : List Int} (ht : POK t) (hf : POK f) : (lineS t f).size ≤ 97 := by
  have s1 := pTxt_size ht
  have s2 := pTxt_size hf
  unfold lineS
  simp only [ByteArray.size_append, z1_]
  omega
theorem laws_shown_ev {t f : List Int} (ht : POK t) (hf : POK f) : Ev (fun k => laws_shown.f k t f) (lineS t f ++ ⟨#[10]⟩) := by
  have s1 := pTxt_size ht
  have s2 := pTxt_size hf
  unfold laws_shown.f
  refine Ev.bind (impl_PermText_ev ht) ?_
  refine Ev.pos (by omega) ?_
  refine Ev.bind (impl_PermText_ev hf) ?_
  exact Ev.pos (by simp only [ByteArray.size_append, z1_]; omega) (Ev.pos (by simp only [ByteArray.size_append, z1_]; omega) (Ev.const rfl))
/-! ### laws_endLine -/
theorem laws_endLine_ev (n : Nat) (h : n < 100) : Ev (fun k => laws_endLine.f k (n : Int)) ((⟨#[100, 97, 114, 116, 115, 32]⟩ ++ ⟨(Lib.decDigits n).toArray⟩) ++ ⟨#[10]⟩) := by
  have hz : (⟨(Lib.decDigits n).toArray⟩ : ByteArray).size ≤ 2 := endline_size ⟨n, h⟩
  unfold laws_endLine.f
  refine Ev.bind (laws_digits_ev n h) ?_
  refine Ev.pos (by omega) (Ev.pos ?_ (Ev.const rfl))
  rw [ByteArray.size_append, show (⟨#[100, 97, 114, 116, 115, 32]⟩ : ByteArray).size = 6 from rfl]
  omega
/-! ### The law -/
/-! ### Lines of Execute that set and show a map -/
theorem dec_sign : ∀ n : Fin 100, ((Lib.decDigits n.val).all fun b => decide (48 ≤ b.toNat ∧ b.toNat ≤ 57)) = true := by decide +kernel
theorem dec_free (n : Nat) (h : n < 100) (c : UInt8) (hc : c.toNat < 48) : c ∉ Lib.decDigits n := fun hm => by
  have := of_decide_eq_true (List.all_eq_true.1 (dec_sign ⟨n, h⟩) c hm)
  omega
theorem lineM_data (t f : List Int) : (lineM t f).data.toList = [109, 97, 112] ++ 32 :: (Lib.decDigits t.length ++ 32 :: ((pTxt t).data.toList ++ 32 :: (pTxt f).data.toList)) := by
  unfold lineM; simp
theorem lineM_words {t f : List Int} (ht : POK t) (hf : POK f) : XE.wordsOf (lineM t f) = [⟨#[109, 97, 112]⟩, ⟨(Lib.decDigits t.length).toArray⟩, pTxt t, pTxt f] := by
  have h12 := ht.1.2
  refine xe_words _ _ ?_
  rw [lineM_data, xs_split_hit 32 _ _ (by decide), xs_split_hit 32 _ _ (dec_free _ (by omega) 32 (by decide)), xs_split_hit 32 _ _ (sign_free (pTxt_sign ht) 32 (.inr rfl)), xs_split_free 32 _ (sign_free (pTxt_sign hf) 32 (.inr rfl))]
  simp
theorem lineM_line {t f : List Int} (ht : POK t) (hf : POK f) : (10 : UInt8) ∉ (lineM t f).data.toList := by
  have h12 := ht.1.2
  rw [lineM_data]
  have h1 := dec_free t.length (by omega) 10 (by decide)
  have h2 := sign_free (pTxt_sign ht) 10 (.inl rfl)
  have h3 := sign_free (pTxt_sign hf) 10 (.inl rfl)
  simp [h1, h2, h3]
theorem cmd_map {t f T U : List Int} (h : MOK t f) : Ev (fun k => impl_Execute.cmdF k T U [⟨#[109, 97, 112]⟩, ⟨(Lib.decDigits t.length).toArray⟩, pTxt t, pTxt f]) (⟨#[111, 107]⟩, t, f) := by
  have ht := h.1
  have hf := h.2.1
  have h12 := ht.1.2
  have e := h.2.2.1
  obtain ⟨n0, x0⟩ := impl_numberOf_ex (⟨#[109, 97, 112]⟩ : ByteArray)
  obtain ⟨n2, x2⟩ := impl_numberOf_ex (pTxt t)
  obtain ⟨n3, x3⟩ := impl_numberOf_ex (pTxt f)
  have g2 := impl_PermFrom_ev hf
  rw [← e] at g2
  refine Ev.congr (fun k => by rw [impl_Execute.cmdF]) ?_
  refine Ev.pos rfl ?_
  refine Ev.bind x0 (Ev.bind (impl_numberOf_dec t.length (by omega)) (Ev.bind x2 (Ev.bind x3 ?_)))
  refine Ev.bind (impl_PermFrom_ev ht) (Ev.bind g2 ?_)
  refine Ev.pos ⟨rfl, rfl⟩ ?_
  refine Ev.bind (impl_MapValid_ev t f) ?_
  exact Ev.pos (dec_t h) (Ev.const rfl)
theorem cmd_show {t f : List Int} (ht : POK t) (hf : POK f) : Ev (fun k => impl_Execute.cmdF k t f [⟨#[115, 104, 111, 119]⟩]) (lineS t f, t, f) := by
  obtain ⟨n0, x0⟩ := impl_numberOf_ex (⟨#[115, 104, 111, 119]⟩ : ByteArray)
  have s1 := pTxt_size ht
  have s2 := pTxt_size hf
  refine Ev.congr (fun k => by rw [impl_Execute.cmdF]) ?_
  refine Ev.neg (by decide) (Ev.pos rfl ?_)
  refine Ev.bind x0 (Ev.bind (impl_PermText_ev ht) (Ev.bind (impl_PermText_ev hf) ?_))
  exact Ev.pos ⟨by omega, by omega⟩ (Ev.const rfl)
theorem cmd_tutte {t f : List Int} (h : MOK t f) (h6 : t.length ≤ 6) : Ev (fun k => impl_Execute.cmdF k t f [⟨#[116, 117, 116, 116, 101]⟩]) (⟨#[111, 107]⟩, rngL (tqA t (backL (mulL f t))) (2 * t.length), rngL tqB (2 * t.length)) := by
  obtain ⟨n0, x0⟩ := impl_numberOf_ex (⟨#[116, 117, 116, 116, 101]⟩ : ByteArray)
  have hd := impl_TutteQuad_ev t f
  unfold tutM at hd
  rw [if_pos (dec_t ⟨h, h6⟩)] at hd
  refine Ev.congr (fun k => by rw [impl_Execute.cmdF]) ?_
  refine Ev.pos rfl ?_
  refine Ev.bind x0 (Ev.bind hd ?_)
  exact Ev.pos rfl (Ev.const rfl)
theorem tut_pok {t f : List Int} (h : MOK t f) (h6 : t.length ≤ 6) : POK (rngL (tqA t (backL (mulL f t))) (2 * t.length)) ∧ POK (rngL tqB (2 * t.length)) := by
  have hz := h.size
  have h1 := tqT_perm h.permT (backL_perm (mulL_perm h.permF h.permT))
  have h2 := tqF_perm t.length
  refine ⟨⟨by rw [rngL_length]; omega, by rw [rngL_length]; exact h1⟩, ⟨by rw [rngL_length]; omega, by rw [rngL_length]; exact h2⟩⟩
theorem exec_tutte {t f : List Int} (h : MOK t f) (h6 : t.length ≤ 6) : Ev (fun k => impl_Execute.f k ((lineM t f ++ ⟨#[10]⟩) ++ ⟨#[116, 117, 116, 116, 101, 10, 115, 104, 111, 119, 10]⟩)) (((⟨#[111, 107, 10, 111, 107, 10]⟩ : ByteArray) ++ (lineS (rngL (tqA t (backL (mulL f t))) (2 * t.length)) (rngL tqB (2 * t.length)) ++ ⟨#[10]⟩)) ++ ((⟨#[100, 97, 114, 116, 115, 32]⟩ ++ ⟨(Lib.decDigits (2 * t.length)).toArray⟩) ++ ⟨#[10]⟩)) := by
  have ht := h.1
  have hf := h.2.1
  obtain ⟨hd, he⟩ := tut_pok h h6
  have h12 := ht.1.2
  have hs := lineM_size ht hf
  have hs2 := lineS_size hd he
  have hc := cmd_tutte h h6
  have el : (rngL (tqA t (backL (mulL f t))) (2 * t.length)).length = 2 * t.length := rngL_length _ _
  generalize rngL (tqA t (backL (mulL f t))) (2 * t.length) = T at *
  generalize rngL tqB (2 * t.length) = U at *
  have hl : (XE.linesOf ((lineM t f ++ ⟨#[10]⟩) ++ ⟨#[116, 117, 116, 116, 101, 10, 115, 104, 111, 119, 10]⟩)).dropLast = [lineM t f, ⟨#[116, 117, 116, 116, 101]⟩, ⟨#[115, 104, 111, 119]⟩] := by
    refine xe_linesOf (fun l hm => ?_) (by simp)
    rcases List.mem_cons.1 hm with rfl | hm
    · exact lineM_line ht hf
    · have : l = ⟨#[116, 117, 116, 116, 101]⟩ ∨ l = ⟨#[115, 104, 111, 119]⟩ := by simpa using hm
      rcases this with rfl | rfl <;> decide
  unfold impl_Execute.f
  refine Ev.pos (by rw [ByteArray.size_append, ByteArray.size_append, z1_, show (⟨#[116, 117, 116, 116, 101, 10, 115, 104, 111, 119, 10]⟩ : ByteArray).size = 11 from rfl]; omega) ?_
  rw [hl]
  have hgo := xe_step (F := impl_Execute.cmdF) (T := [1, 0]) (U := [1, 0]) (o := ⟨#[]⟩) (by omega) (lineM_words ht hf) (cmd_map h) (by decide)
    (xe_step (ls := [⟨#[115, 104, 111, 119]⟩]) (l := ⟨#[116, 117, 116, 116, 101]⟩) (by decide) (xe_word _ (by decide)) hc (by decide)
      (xe_step (ls := []) (l := ⟨#[115, 104, 111, 119]⟩) (by decide) (xe_word _ (by decide)) (cmd_show hd he) (by omega) xe_end))
  refine Ev.bind hgo ?_
  refine Ev.pos (by show T.length < 100; omega) (Ev.const (congrArg some (xs_toList_inj ?_)))
  simp [el]
theorem FnExecuteTutte : laws_FnExecuteTutte.Pure := by
  intro l hm hl hwf
  refine Ev.rounds ?_
  unfold laws_FnExecuteTutte.f
  refine Ev.ite (fun _ => Ev.const rfl) (fun _ => ?_)
  obtain ⟨t, f, h1, h2, h3⟩ := spec_DrawTutteQuad_ex l (bytes_of_wf hwf)
  refine Ev.bind h1 ?_
  refine Ev.bind (impl_TutteQuad_ev t f) ?_
  refine Ev.bind (spec_TutteQuad_ev t f (by omega) (by omega)) ?_
  have hlen : (tutM t f).1.length ≤ 12 ∧ (tutM t f).2.1.length ≤ 12 := by
    unfold tutM; split
    · rename_i hh
      have h6 := (dec_iff.1 hh).2
      refine ⟨?_, ?_⟩ <;> dsimp only <;> rw [rngL_length] <;> omega
    · simp
  refine Ev.neg (by simp) ?_
  refine Ev.bind (laws_sameMap_ev _ _ _ _ (by omega) (by omega)) ?_
  refine Ev.pos (by simp) ?_
  by_cases hh : MOK t f ∧ t.length ≤ 6
  · obtain ⟨h, h6⟩ := hh
    have e : tutM t f = (rngL (tqA t (backL (mulL f t))) (2 * t.length), rngL tqB (2 * t.length), true) := by unfold tutM; rw [if_pos (dec_t ⟨h, h6⟩)]
    rw [e]
    dsimp only
    have ht := h.1
    have hf := h.2.1
    obtain ⟨hd, hq⟩ := tut_pok h h6
    have hs2 := lineS_size hd hq
    have hs := lineM_size ht hf
    have hx := exec_tutte h h6
    have el : (rngL (tqA t (backL (mulL f t))) (2 * t.length)).length = 2 * t.length := rngL_length _ _
    generalize rngL (tqA t (backL (mulL f t))) (2 * t.length) = T at *
    generalize rngL tqB (2 * t.length) = U at *
    have he : (((⟨#[100, 97, 114, 116, 115, 32]⟩ ++ ⟨(Lib.decDigits (2 * t.length)).toArray⟩) ++ ⟨#[10]⟩ : ByteArray)).size ≤ 10 := by
      have := dec_size (2 * t.length) (by omega)
      rw [ByteArray.size_append, ByteArray.size_append, show (⟨#[100, 97, 114, 116, 115, 32]⟩ : ByteArray).size = 6 from rfl, z1_]; omega
    refine Ev.step (fun k => by rw [laws_FnExecuteTutte.j0]) ?_
    refine Ev.neg (by decide) ?_
    refine Ev.bind (laws_mapLine_ev ht hf) ?_
    refine Ev.pos (by rw [ByteArray.size_append, z1_]; omega) ?_
    refine Ev.bind hx ?_
    refine Ev.bind (laws_shown_ev hd hq) ?_
    refine Ev.pos (by rw [ByteArray.size_append, z1_]; omega) ?_
    rw [el]
    refine Ev.bind (laws_endLine_ev (2 * t.length) (by omega)) ?_
    refine Ev.pos (by rw [ByteArray.size_append, ByteArray.size_append, z1_, show (⟨#[111, 107, 10, 111, 107, 10]⟩ : ByteArray).size = 6 from rfl]; omega) (Ev.const ?_)
    rw [beq_self_eq_true]
  · have e : tutM t f = ([], [], false) := by unfold tutM; rw [if_neg (by rw [dec_f hh]; decide)]
    rw [e]
    dsimp only
    refine Ev.step (fun k => by rw [laws_FnExecuteTutte.j0]) ?_
    refine Ev.pos rfl ?_
    have hsm := laws_sameMap_ev ([] : List Int) [] [] [] (by simp) (by simp)
    first
      | exact Ev.bind hsm (Ev.const (by simp))
      | exact Ev.pos rfl (Ev.bind hsm (Ev.const (by simp)))
      | exact Ev.pos rfl (Ev.bind hsm (Ev.pos (by simp) (Ev.const (by simp))))

end Go.Proofs.YtjebcgbmlbemcaaGreatDoor.Pure
