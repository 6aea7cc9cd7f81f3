-- Made by a program of this session (wip/tools) out of the loaded program; not trusted: Lean checks it.
import Derived.Test.YtmcgkckdnelcdaaPFnExactCoverDeckx0
import Derived.Test.YtmcgkckdnelcdaaPFnExactCoverDeckx2
import Derived.Test.YtmcgkckdnelcdaaPFnExactCoverDeckx3
-- packed
namespace Go.Proofs.Ytmcgkckdnelcdaa.PFnExactCoverDeck
open Go.RowKit Go.Proofs.YtmcgkckdnelcdaaW.PrintWords Go.Proofs.YtmcgkckdnelcdaaW.PrintLast Go.Proofs.YtmcgkckdnelcdaaW.PrintMore
attribute [local go_sem] max2_int min2_int max_two min_two max_three min_three max_four min_four   -- for this text's walks alone
set_option linter.unusedVariables false
set_option linter.unusedSimpArgs false

/-! ### spec_l2Order: function 66 -/
def spec_l2Order.l0 : Nat → List Int → List Int → Int → Option (Int)
  | 0, _, _, _ => none
  | k + 1, x0, x1, x5 => if x5 < (x0.length : Int) then (if 0 ≤ x5 then (if x5 < (x1.length : Int) then (if (rd x0 x5) < (rd x1 x5) then (some (-1)) else (if (rd x0 x5) > (rd x1 x5) then (some 1) else (spec_l2Order.l0 k x0 x1 (wrap64 (x5 + 1))))) else (none)) else (none)) else (some 0)
def spec_l2Order.f (k : Nat) (l0 : List Int) (l1 : List Int) : Option (Int) := spec_l2Order.l0 k l0 l1 0
set_option maxHeartbeats 8000000 in
set_option maxRecDepth 100000 in
theorem spec_l2Order.calls (k : Nat) (A0 : Option Addr) (c0 : Nat) (l0 : List Int) (A1 : Option Addr) (c1 : Nat) (l1 : List Int) (r : Int) (w : World) (hr0 : Kd.C (Kd.int .i64) w A0 l0.length l0) (hc0 : l0.length ≤ c0) (hr1 : Kd.C (Kd.int .i64) w A1 l1.length l1) (hc1 : l1.length ≤ c1) (h : spec_l2Order.f k l0 l1 = some r) :
    Calls Try.prog 66 #[.slice A0 l0.length c0, .slice A1 l1.length c1] w fun e w' => e = .returned (.int .i64 r) ∧ Drawn0 w w' := by
 have HR0 := A0_ hr0; have HC0 := A0_ hc0; clear hr0 hc0; have HR1 := A0_ hr1; have HC1 := A0_ hc1; clear hr1 hc1
 have H : (spec_l2Order.l0 k l0 l1 0) = some r := h
 clear h; have H' := A0_ H; clear H
 go_enter Try.func66, Try.ntmps66
 go_wp2
 repeat (go_quiet (fail); try go_wp2)
 go_loopg [5] k (fun kq v5 w' => ∃ (x5_1 : Int), v5 = .int .i64 x5_1 ∧ Aside0 (spec_l2Order.l0 kq l0 l1 x5_1 = some r) ∧ Aside0 (kq ≤ k) ∧ Drawn0 w w')
 case atStart => exact ⟨(0), zt, H', ⟨Nat.le_refl _⟩, by repeat (first | exact Drawn0.refl _ | apply Drawn0.step)⟩
 case round =>
  clear H'; (try clear c1); (try clear p2); obtain ⟨x5_1, rfl, HA, HK1, ⟨m1, rfl⟩⟩ := hrel
  cases gk with
  | zero => exact absurd HA.out (by simp [spec_l2Order.l0])
  | succ k1 =>
   have H := HA.out; clear HA; simp only [spec_l2Order.l0] at H
   by_cases c3 : x5_1 < (l0.length : Int)
   ·rw [if_pos c3] at H
    have c3b0 := dT c3; clear c3
    by_cases c4 : 0 ≤ x5_1
    ·rw [if_pos c4] at H
     have c4b0 := dT c4; clear c4
     by_cases c5 : x5_1 < (l1.length : Int)
     ·rw [if_pos c5] at H
      have c5b0 := dT c5; clear c5
      by_cases c6 : (rd l0 x5_1) < (rd l1 x5_1)
      ·rw [if_pos c6] at H
       have c6b0 := dT c6; clear c6; obtain rfl := sI H
       have p204 : 0 ≤ (x5_1 : Int) := zd
       have q204 : x5_1 < (l0.length : Int) := zd
       obtain ⟨ad204, e204, hx204_0⟩ := tI HR0.out x5_1 p204 q204
       cases e204
       replace p204 := eq_true p204; replace q204 := eq_true q204
       have p205 : 0 ≤ (x5_1 : Int) := zd
       have q205 : x5_1 < (l1.length : Int) := zd
       obtain ⟨ad205, e205, hx205_0⟩ := tI HR1.out x5_1 p205 q205
       cases e205
       replace p205 := eq_true p205; replace q205 := eq_true q205
       go_wp2
       repeat (go_quiet (fail); try go_wp2)
       go_ret
       exact ⟨by first | rfl | (simp; done) | (simp [*]; done), by repeat (first | exact Drawn0.refl _ | apply Drawn0.step)⟩
      rw [if_neg c6] at H; have c6b0 := dF c6; clear c6
      by_cases c7 : (rd l0 x5_1) > (rd l1 x5_1)
      ·rw [if_pos c7] at H
       have c7b0 : decide ((rd l1 x5_1) < (rd l0 x5_1)) = true := dT c7
       clear c7; obtain rfl := sI H
       have p204 : 0 ≤ (x5_1 : Int) := zd
       have q204 : x5_1 < (l0.length : Int) := zd
       obtain ⟨ad204, e204, hx204_0⟩ := tI HR0.out x5_1 p204 q204
       cases e204
       replace p204 := eq_true p204; replace q204 := eq_true q204
       have p205 : 0 ≤ (x5_1 : Int) := zd
       have q205 : x5_1 < (l1.length : Int) := zd
       obtain ⟨ad205, e205, hx205_0⟩ := tI HR1.out x5_1 p205 q205
       cases e205
       replace p205 := eq_true p205; replace q205 := eq_true q205
       have p206 : 0 ≤ (x5_1 : Int) := zd
       have q206 : x5_1 < (l0.length : Int) := zd
       obtain ⟨ad206, e206, hx206_0⟩ := tI HR0.out x5_1 p206 q206
       obtain rfl : ad204 = ad206 := (by injection e206)
       replace p206 := eq_true p206; replace q206 := eq_true q206
       have p207 : 0 ≤ (x5_1 : Int) := zd
       have q207 : x5_1 < (l1.length : Int) := zd
       obtain ⟨ad207, e207, hx207_0⟩ := tI HR1.out x5_1 p207 q207
       obtain rfl : ad205 = ad207 := (by injection e207)
       replace p207 := eq_true p207; replace q207 := eq_true q207
       go_wp2
       repeat (go_quiet (fail); try go_wp2)
       go_ret
       exact ⟨by first | rfl | (simp; done) | (simp [*]; done), by repeat (first | exact Drawn0.refl _ | apply Drawn0.step)⟩
      rw [if_neg c7] at H
      have c7b0 : decide ((rd l1 x5_1) < (rd l0 x5_1)) = false := dF c7
      clear c7; have H' := A0_ H; clear H
      have p204 : 0 ≤ (x5_1 : Int) := zd
      have q204 : x5_1 < (l0.length : Int) := zd
      obtain ⟨ad204, e204, hx204_0⟩ := tI HR0.out x5_1 p204 q204
      cases e204
      replace p204 := eq_true p204; replace q204 := eq_true q204
      have p205 : 0 ≤ (x5_1 : Int) := zd
      have q205 : x5_1 < (l1.length : Int) := zd
      obtain ⟨ad205, e205, hx205_0⟩ := tI HR1.out x5_1 p205 q205
      cases e205
      replace p205 := eq_true p205; replace q205 := eq_true q205
      have p206 : 0 ≤ (x5_1 : Int) := zd
      have q206 : x5_1 < (l0.length : Int) := zd
      obtain ⟨ad206, e206, hx206_0⟩ := tI HR0.out x5_1 p206 q206
      obtain rfl : ad204 = ad206 := (by injection e206)
      replace p206 := eq_true p206; replace q206 := eq_true q206
      have p207 : 0 ≤ (x5_1 : Int) := zd
      have q207 : x5_1 < (l1.length : Int) := zd
      obtain ⟨ad207, e207, hx207_0⟩ := tI HR1.out x5_1 p207 q207
      obtain rfl : ad205 = ad207 := (by injection e207)
      replace p207 := eq_true p207; replace q207 := eq_true q207
      go_wp2
      repeat (go_quiet (fail); try go_wp2)
      go_roundg k1
      case measure => have := HK1.out; omega
      case rel => exact ⟨(wrap64 (x5_1 + 1)), zt, H', ⟨by have := HK1.out; omega⟩, by repeat (first | exact Drawn0.refl _ | apply Drawn0.step)⟩
     rw [if_neg c5] at H
     exact absurd H (by simp)
    rw [if_neg c4] at H
    exact absurd H (by simp)
   rw [if_neg c3] at H; have c3b0 := dF c3; clear c3; obtain rfl := sI H
   go_wp2
   repeat (go_quiet (fail); try go_wp2)
   go_ret
   exact ⟨by first | rfl | (simp; done) | (simp [*]; done), by repeat (first | exact Drawn0.refl _ | apply Drawn0.step)⟩

/-! ### spec_l1Mul: function 67 -/
def spec_l1Mul.l0 : Nat → List Int → List Int → List Int → Int → Option (List Int)
  | 0, _, _, _, _ => none
  | k + 1, x0, x1, x5, x6 => if x6 < (x0.length : Int) then (if 0 ≤ x6 then (if 0 ≤ (rd x0 x6) then (if (rd x0 x6) < (x1.length : Int) then (if x5.length < 17592186044416 then (spec_l1Mul.l0 k x0 x1 (x5 ++ [rd x1 (rd x0 x6)]) (wrap64 (x6 + 1))) else (none)) else (none)) else (none)) else (none)) else (some x5)
def spec_l1Mul.f (k : Nat) (l0 : List Int) (l1 : List Int) : Option (List Int) := spec_l1Mul.l0 k l0 l1 (([] : List Int)) 0
set_option maxHeartbeats 8000000 in
set_option maxRecDepth 100000 in
theorem spec_l1Mul.calls (k : Nat) (A0 : Option Addr) (c0 : Nat) (l0 : List Int) (A1 : Option Addr) (c1 : Nat) (l1 : List Int) (r : List Int) (w : World) (hr0 : Kd.C (Kd.int .i64) w A0 l0.length l0) (hc0 : l0.length ≤ c0) (hr1 : Kd.C (Kd.int .i64) w A1 l1.length l1) (hc1 : l1.length ≤ c1) (h : spec_l1Mul.f k l0 l1 = some r) :
    Calls Try.prog 67 #[.slice A0 l0.length c0, .slice A1 l1.length c1] w fun e w' => ∃ v0_ : Value, e = .returned (v0_) ∧ Kd.R (Kd.int .i64) 3 w' w.heap.size (fun _ => True) v0_ r ∧ Below w.heap.size w w' := by
 have HR0 := A0_ hr0; have HC0 := A0_ hc0; clear hr0 hc0; have HR1 := A0_ hr1; have HC1 := A0_ hc1; clear hr1 hc1
 have HB := A0_ (Below.refl w.heap.size w)
 have H : (spec_l1Mul.l0 k l0 l1 (([] : List Int)) 0) = some r := h
 clear h
 obtain ⟨y208, hy208⟩ : ∃ y_ : List Int, y_ = (([] : List Int)) := ⟨_, rfl⟩
 replace H : (spec_l1Mul.l0 k l0 l1 y208 0) = some r := zH hy208 H
 have Ny208 := A0_ hy208; clear hy208; have H' := A0_ H; clear H
 go_enter Try.func67, Try.ntmps67
 go_wp2_with (first | ((with_reducible refine gD (N := 7) rfl ?_); refine Kd.R_lit (Kd.int .i64) _ 3 ?hg (N := 7) ?hd (xs := ([] : List Int)) (inner := []) (ok := fun _ => True) (okp := fun _ => True) ?hr ?hp (fun _ hk => hk) trivial (Below.refl _ _) (Nat.le_refl _) (by simp) ?_; (case hd => rfl); (case hg => rfl); (case hr => first | (go_simp; done) | (go_simp; rfl)); (case hp => exact (Reps.none _ _)); intro v209 w3 ho4 hb hg_ hnew_; clear hg_ hnew_; (first | rw [← Ny208.out] at ho4 | (simp only [Int.reduceToNat] at ho4; rw [← Ny208.out] at ho4)); have HO210 := A0_ (rL ho4 (bZ (zB_ HB))); replace HB := zB HB hb; clear hb ho4))
 go_loopg [5, 6] k (fun kq v5 v6 w' => ∃ (x5_1 : List Int) (x6_1 : Int), v6 = .int .i64 x6_1 ∧ Aside0 (spec_l1Mul.l0 kq l0 l1 x5_1 x6_1 = some r) ∧ Aside0 (kq ≤ k) ∧ Aside0 (Kd.R (Kd.int .i64) 3 w' w.heap.size (fun _ => True) v5 x5_1) ∧ Aside0 (Below w.heap.size w w'))
 case atStart => exact ⟨(y208), (0), zt, H', ⟨Nat.le_refl _⟩, ⟨zR_ HO210⟩, ⟨zB_ HB⟩⟩
 case round =>
  clear H'; (try clear c1); (try clear p2); obtain ⟨x5_1, x6_1, rfl, HA, HK1, HO_5, HB⟩ := hrel
  cases gk with
  | zero => exact absurd HA.out (by simp [spec_l1Mul.l0])
  | succ k1 =>
   have H := HA.out; clear HA; simp only [spec_l1Mul.l0] at H
   by_cases c5 : x6_1 < (l0.length : Int)
   ·rw [if_pos c5] at H
    have c5b0 := dT c5; clear c5
    by_cases c6 : 0 ≤ x6_1
    ·rw [if_pos c6] at H
     have c6b0 := dT c6; clear c6
     by_cases c7 : 0 ≤ (rd l0 x6_1)
     ·rw [if_pos c7] at H
      have c7b0 := dT c7; clear c7
      by_cases c8 : (rd l0 x6_1) < (l1.length : Int)
      ·rw [if_pos c8] at H
       have c8b0 := dT c8; clear c8
       by_cases c9 : x5_1.length < 17592186044416
       ·rw [if_pos c9] at H
        have LMc9 := A0_ c9; clear c9
        obtain ⟨y213, hy213⟩ : ∃ y_ : List Int, y_ = (x5_1 ++ [rd l1 (rd l0 x6_1)]) := ⟨_, rfl⟩
        replace H : (spec_l1Mul.l0 k1 l0 l1 y213 (wrap64 (x6_1 + 1))) = some r := zH hy213 H
        have Ny213 := A0_ hy213; clear hy213; have H' := A0_ H; clear H
        have p211 : 0 ≤ (x6_1 : Int) := zd
        have q211 : x6_1 < (l0.length : Int) := zd
        obtain ⟨ad211, e211, hx211_0⟩ := tI HR0.out x6_1 p211 q211
        cases e211
        try replace hx211_0 := (HB.out.cell (wL w _ hx211_0)).trans hx211_0
        replace p211 := eq_true p211; replace q211 := eq_true q211
        have p212 : 0 ≤ ((rd l0 x6_1) : Int) := zd
        have q212 : (rd l0 x6_1) < (l1.length : Int) := zd
        obtain ⟨ad212, e212, hx212_0⟩ := tI HR1.out (rd l0 x6_1) p212 q212
        cases e212
        try replace hx212_0 := (HB.out.cell (wL w _ hx212_0)).trans hx212_0
        replace p212 := eq_true p212; replace q212 := eq_true q212
        go_wp2_with (first | ((with_reducible refine gB (b := .append) (xs := #[.tmp 14, .tmp 22]) rfl ?_); at_builtin; refine Kd.R_append (Kd.int .i64) (w0 := w) w.heap.size rfl (.tmp 14) (.tmp 22) 22 3 (.int .i64 0) 8 rfl Try.underlying22 info3 rfl (by decide) (by omega) u5 x5_1 (rd l1 (rd l0 x6_1)) [.int .i64 (rd l1 (rd l0 x6_1))] (fun _ => True) (fun _ => False) rfl rfl ?aP (fun _ hk => hk.elim) ?aF ?aO ?aB ?aS ?aL ?_; (case aP => exact rfl); (case aB => exact (zB_ HB)); (case aF => exact (fun _ _ => trivial)); (case aO => exact (zR_ HO_5)); (case aS => exact (bZ (zB_ HB))); (case aL => have := LMc9.out; omega); intro v214 w10 ho hb hg hat; rw [← Ny213.out] at ho; replace HB := A0_ (hb); have HO215 := A0_ (ho); clear HO_5 ho hb hg hat))
        go_roundg k1
        case measure => have := HK1.out; omega
        case rel => exact ⟨(y213), (wrap64 (x6_1 + 1)), zt, H', ⟨by have := HK1.out; omega⟩, ⟨zR_ HO215⟩, ⟨zB_ HB⟩⟩
       rw [if_neg c9] at H
       exact absurd H (by simp)
      rw [if_neg c8] at H
      exact absurd H (by simp)
     rw [if_neg c7] at H
     exact absurd H (by simp)
    rw [if_neg c6] at H
    exact absurd H (by simp)
   rw [if_neg c5] at H; have c5b0 := dF c5; clear c5; obtain rfl := sI H
   go_wp2
   go_ret
   exact ⟨_, by first | rfl | (simp [*] <;> rfl), zR_ HO_5, zB_ HB⟩

/-! ### spec_CoverDeck: function 36 -/
mutual
def spec_CoverDeck.j0 : Nat → Int → List (List Int) → Bool → Option (Int)
  | 0, _, _, _ => none
  | k + 1, x1, x2, x19 => if x19 = true then (some (-1)) else ((spec_l1Same.f k x1).bind fun t218 => (spec_CoverDeck.l0 k x2 0 t218))
def spec_CoverDeck.l0 : Nat → List (List Int) → Int → List Int → Option (Int)
  | 0, _, _, _ => none
  | k + 1, x2, x7, x8 => if (x8.length : Int) > 0 then (spec_CoverDeck.l1 k x2 x7 x8 true 0) else (some x7)
def spec_CoverDeck.l1 : Nat → List (List Int) → Int → List Int → Bool → Int → Option (Int)
  | 0, _, _, _, _, _ => none
  | k + 1, x2, x7, x8, x9, x10 => if x10 < (x2.length : Int) then (if x9 = true then (if 0 ≤ x10 then ((spec_l1Mul.f k x8 (rd_L1 x2 x10)).bind fun t222 => ((spec_l1Mul.f k (rd_L1 x2 x10) x8).bind fun t226 => ((spec_l2Order.f k t222 t226).bind fun t229 => (spec_CoverDeck.l1 k x2 x7 x8 (t229 == 0) (wrap64 (x10 + 1)))))) else (none)) else (spec_CoverDeck.l1 k x2 x7 x8 false (wrap64 (x10 + 1)))) else (if x9 = true then ((spec_l3Next.f k x8).bind fun t230 => (spec_CoverDeck.l0 k x2 (wrap64 (x7 + 1)) t230)) else ((spec_l3Next.f k x8).bind fun t233 => (spec_CoverDeck.l0 k x2 x7 t233)))
end
def spec_CoverDeck.f (k : Nat) (l0_0 : List Int) (l0_1 : List Int) (a1 : Int) (l2 : List (List Int)) : Option (Int) := (spec_VoltageValid.f k l0_0 l0_1 a1 l2).bind fun t217 => (if t217 = true then (spec_CoverDeck.j0 k a1 l2 (decide (a1 > 4))) else (spec_CoverDeck.j0 k a1 l2 true))
def spec_CoverDeck.T11 : Bool × List (List Nat × List Nat) := (true, [([], []), ([0], [0]), ([1], [1]), ([1], [1]), ([1], [1]), ([3, 4, 1], [1, 3, 4]), ([5, 1], [1, 5]), ([2, 6, 1, 1], [1, 2, 6]), ([1], [1]), ([1], [1]), ([8, 9, 1], [1, 8, 9]), ([10, 1], [1, 10]), ([1], [1]), ([11, 12, 7, 1], [1, 11, 12]), ([7, 13, 13, 1], [1, 7, 13]), ([14, 1], [1, 14]), ([1, 15], [1, 15]), ([16, 14, 0, 1, 2, 3, 4, 5, 6, 7, 8, 9, 10, 11, 12, 13, 14, 15, 16], [0, 16])])
def spec_CoverDeck.B11 : List Nat := [0, 1, 3, 3, 3, 27, 59, 127, 3, 3, 771, 1795, 3, 8191, 16383, 32767, 65535, 131071]
theorem spec_CoverDeck.tab11 : rtab .any (opsOf Try.f36 11) = spec_CoverDeck.T11 := by kernel_rfl
theorem spec_CoverDeck.bits11 : waitsOk spec_CoverDeck.T11.2 spec_CoverDeck.B11 = true := by kernel_rfl
set_option maxHeartbeats 8000000 in
set_option maxRecDepth 100000 in
theorem spec_CoverDeck.calls (k : Nat) (A0_0 : Option Addr) (c0_0 : Nat) (l0_0 : List Int) (A0_1 : Option Addr) (c0_1 : Nat) (l0_1 : List Int) (a1 : Int) (A2 : Option Addr) (c2 : Nat) (l2 : List (List Int)) (r : Int) (w : World) (hr0_0 : Kd.C (Kd.int .i64) w A0_0 l0_0.length l0_0) (hc0_0 : l0_0.length ≤ c0_0) (hr0_1 : Kd.C (Kd.int .i64) w A0_1 l0_1.length l0_1) (hc0_1 : l0_1.length ≤ c0_1) (hr2 : Kd.C (Kd.slice 3 (Kd.int .i64)) w A2 l2.length l2) (hc2 : l2.length ≤ c2) (h : spec_CoverDeck.f k l0_0 l0_1 a1 l2 = some r) :
    Calls Try.prog 36 #[.agg #[.slice A0_0 l0_0.length c0_0, .slice A0_1 l0_1.length c0_1], .int .i64 a1, .slice A2 l2.length c2] w fun e w' => e = .returned (.int .i64 r) ∧ Below w.heap.size w w' := by
 have hu29 := Try.underlying29; have HR0_0 := A0_ hr0_0; have HC0_0 := A0_ hc0_0; clear hr0_0 hc0_0; have HR0_1 := A0_ hr0_1; have HC0_1 := A0_ hc0_1; clear hr0_1 hc0_1; have HR2 := A0_ hr2; have HC2 := A0_ hc2; clear hr2 hc2
 have HB := A0_ (Below.refl w.heap.size w)
 have H : ((spec_VoltageValid.f k l0_0 l0_1 a1 l2).bind fun t217 => (if t217 = true then (spec_CoverDeck.j0 k a1 l2 (decide (a1 > 4))) else (spec_CoverDeck.j0 k a1 l2 true))) = some r := h
 clear h; have HC4 := A0_ H; clear H
 go_enter Try.func36, Try.ntmps36
 go_upto_region 1 with (first | ((with_reducible refine gD (N := 3) rfl ?_); refine zX (N := 3) (cs := #[.slice A0_0 l0_0.length c0_0, .slice A0_1 l0_1.length c0_1]) (t := 29) ?_; intro gb216 hg w5 hbox hb; have BK216 := A0_ (hbox); have GW216 := zG hg HB; have GE216 := zG hg HB; replace HB := zB HB hb; clear hb hbox hg))
 (try simp only [Act.put, List.setIfInBounds_toArray, List.set_cons_zero, List.set_cons_succ])
 go_cut [19] (fun v19 wc => ∃ (kq : Nat) (x19_3 : Bool), v19 = .bool x19_3 ∧ Aside0 (spec_CoverDeck.j0 kq a1 l2 x19_3 = some r) ∧ Aside0 (kq ≤ k) ∧ Aside0 (wc.heap[gb216]? = some (.cells #[(.slice A0_0 l0_0.length c0_0), (.slice A0_1 l0_1.length c0_1)] 29 (0, 0))) ∧ Aside0 (Below w.heap.size w wc))
 case first =>
  have H := HC4.out; clear HC4; obtain ⟨t217, A6, H⟩ := zbind H
  by_cases c7 : t217 = true
  ·subst c7
   rw [if_pos rfl] at H; have H' := A0_ H; clear H; have hcz8_0 := zc0 BK216; have hcz8_1 := zc1 BK216; have hfz8_0 := kF BK216.out 0; have hfz8_1 := kF BK216.out 1
   go_wp2_with (first | ((with_reducible refine gC (f := 17) rfl ?_); refine zJ (some 14) Try.func17 #[.agg #[.slice A0_0 l0_0.length c0_0, .slice A0_1 l0_1.length c0_1], .int .i64 a1, .slice A2 l2.length c2] ?_; (with_reducible refine (spec_VoltageValid.calls k _ _ l0_0 _ _ l0_1 a1 _ _ l2 true _ ?side1 ?side2 ?side3 ?side4 ?side5 ?side6 A6.out).mono ?_); (case side1 => exact zC HR0_0 HB); (case side2 => exact HC0_0.out); (case side3 => exact zC HR0_1 HB); (case side4 => exact HC0_1.out); (case side5 => exact zC HR2 HB); (case side6 => exact HC2.out); rintro e w9 ⟨rfl, hb⟩; refine ⟨_, rfl, ?_⟩; replace BK216 := zK BK216 hb; replace HB := zB HB hb; (try clear hb)))
   go_meet
   case rel => exact ⟨_, (decide (a1 > 4)), zt, H', zo, ⟨zK_ BK216⟩, ⟨zB_ HB⟩⟩
  replace c7 := Bool.eq_false_iff.mpr c7; subst c7
  rw [if_neg (show ¬ (false = true) by decide)] at H
  have H' := A0_ H; clear H; have hcz10_0 := zc0 BK216; have hcz10_1 := zc1 BK216; have hfz10_0 := kF BK216.out 0; have hfz10_1 := kF BK216.out 1
  go_wp2_with (first | ((with_reducible refine gC (f := 17) rfl ?_); refine zJ (some 14) Try.func17 #[.agg #[.slice A0_0 l0_0.length c0_0, .slice A0_1 l0_1.length c0_1], .int .i64 a1, .slice A2 l2.length c2] ?_; (with_reducible refine (spec_VoltageValid.calls k _ _ l0_0 _ _ l0_1 a1 _ _ l2 false _ ?side1 ?side2 ?side3 ?side4 ?side5 ?side6 A6.out).mono ?_); (case side1 => exact zC HR0_0 HB); (case side2 => exact HC0_0.out); (case side3 => exact zC HR0_1 HB); (case side4 => exact HC0_1.out); (case side5 => exact zC HR2 HB); (case side6 => exact HC2.out); rintro e w11 ⟨rfl, hb⟩; refine ⟨_, rfl, ?_⟩; replace BK216 := zK BK216 hb; replace HB := zB HB hb; (try clear hb)))
  go_meet
  case rel => exact ⟨_, (true), zt, H', zo, ⟨zK_ BK216⟩, ⟨zB_ HB⟩⟩
 case rest =>
  clear HC4; (try clear c1); (try clear c2); (try clear p2); (try clear c3); (try clear c7); (try clear hcz10_0); (try clear hcz10_1); (try clear hcz8_0); (try clear hcz8_1); (try clear hfz10_0); (try clear hfz10_1); (try clear hfz8_0); (try clear hfz8_1); obtain ⟨kq, x19_3, rfl, HA, HJ3, BK216, HB⟩ := hcut
  cases kq with
  | zero => exact absurd HA.out (by simp [spec_CoverDeck.j0])
  | succ kj3 =>
   have H := HA.out; clear HA; simp only [spec_CoverDeck.j0] at H
   by_cases c12 : x19_3 = true
   ·subst c12
    rw [if_pos rfl] at H; obtain rfl := sI H
    go_wp2
    go_ret
    exact ⟨by first | rfl | (simp [*] <;> rfl), zB_ HB⟩
   replace c12 := Bool.eq_false_iff.mpr c12; subst c12
   rw [if_neg (show ¬ (false = true) by decide)] at H
   obtain ⟨t218, A13, H⟩ := zbind H; have H' := A0_ H; clear H
   go_wp2_with (first | ((with_reducible refine gC (f := 61) rfl ?_); refine zJ (some 21) Try.func61 #[.int .i64 a1] ?_; (with_reducible refine (spec_l1Same.calls kj3 a1 t218 _ A13.out).mono ?_); rintro e w14 ⟨v219, rfl, ho0, hb⟩; refine ⟨_, rfl, ?_⟩; have HO220 := A0_ (rL ho0 (bZ (zB_ HB))); replace BK216 := zK BK216 hb; replace HB := zB HB hb; (try clear hb); (try clear ho0)))
   go_loopg [7, 8] kj3 (fun kq v7 v8 w' => ∃ (x7_2 : Int) (x8_2 : List Int), v7 = .int .i64 x7_2 ∧ Aside0 (spec_CoverDeck.l0 kq l2 x7_2 x8_2 = some r) ∧ Aside0 (kq ≤ kj3) ∧ Aside0 (Kd.R (Kd.int .i64) 3 w' w.heap.size (fun _ => True) v8 x8_2) ∧ Aside0 (w'.heap[gb216]? = some (.cells #[(.slice A0_0 l0_0.length c0_0), (.slice A0_1 l0_1.length c0_1)] 29 (0, 0))) ∧ Aside0 (Below w.heap.size w w'))
   case atStart => exact ⟨(0), (t218), zt, H', ⟨Nat.le_refl _⟩, ⟨zR_ HO220⟩, ⟨zK_ BK216⟩, ⟨zB_ HB⟩⟩
   case round =>
    clear H'; (try clear c1); (try clear c2); (try clear p2); (try clear c3); (try clear c6); (try clear c7); (try clear c12); (try clear hcz10_0); (try clear hcz10_1); (try clear hcz8_0); (try clear hcz8_1); (try clear hfz10_0); (try clear hfz10_1); (try clear hfz8_0); (try clear hfz8_1); (try clear p2); obtain ⟨x7_2, x8_2, rfl, HA, HK2, HO_8, BK216, HB⟩ := hrel
    cases gk with
    | zero => exact absurd HA.out (by simp [spec_CoverDeck.l0])
    | succ k2 =>
     have H := HA.out; clear HA; simp only [spec_CoverDeck.l0] at H
     by_cases c15 : (x8_2.length : Int) > 0
     ·rw [if_pos c15] at H
      have c15b0 : decide (0 < (x8_2.length : Int)) = true := dT c15
      have c15b1 : decide (0 < x8_2.length) = true := dT (by omega)
      clear c15; have H' := A0_ H; clear H; obtain ⟨Ao16, co16, eo16⟩ := rS HO_8.out; subst eo16
      go_wp2
      go_loopg [9, 10] k2 (fun kq v9 v10 w' => ∃ (x9_3 : Bool) (x10_3 : Int), v9 = .bool x9_3 ∧ v10 = .int .i64 x10_3 ∧ Aside0 (spec_CoverDeck.l1 kq l2 x7_2 x8_2 x9_3 x10_3 = some r) ∧ Aside0 (kq ≤ k2) ∧ Aside0 (Kd.R (Kd.int .i64) 3 w' w.heap.size (fun _ => True) (.slice Ao16 x8_2.length co16) x8_2) ∧ Aside0 (w'.heap[gb216]? = some (.cells #[(.slice A0_0 l0_0.length c0_0), (.slice A0_1 l0_1.length c0_1)] 29 (0, 0))) ∧ Aside0 (Below w.heap.size w w'))
      case atStart => exact ⟨(true), (0), zt, zt, H', ⟨Nat.le_refl _⟩, ⟨zR_ HO_8⟩, ⟨zK_ BK216⟩, ⟨zB_ HB⟩⟩
      case round =>
       clear H'; (try clear c1); (try clear c2); (try clear p2); (try clear c3); (try clear c6); (try clear c7); (try clear c12); (try clear c15); (try clear c15b0); (try clear c15b1); (try clear hcz10_0); (try clear hcz10_1); (try clear hcz8_0); (try clear hcz8_1); (try clear hfz10_0); (try clear hfz10_1); (try clear hfz8_0); (try clear hfz8_1); (try clear p2); obtain ⟨x9_3, x10_3, rfl, rfl, HA, HK3, HO_8, BK216, HB⟩ := hrel
       cases gk with
       | zero => exact absurd HA.out (by simp [spec_CoverDeck.l1])
       | succ k3 =>
        have H := HA.out; clear HA; simp only [spec_CoverDeck.l1] at H
        by_cases c17 : x10_3 < (l2.length : Int)
        ·rw [if_pos c17] at H
         have c17b0 := dT c17; clear c17
         by_cases c18 : x9_3 = true
         ·subst c18
          rw [if_pos rfl] at H
          by_cases c19 : 0 ≤ x10_3
          ·rw [if_pos c19] at H
           have c19b0 := dT c19; clear c19; obtain ⟨t222, A20, H⟩ := zbind H; obtain ⟨t226, A21, H⟩ := zbind H; obtain ⟨t229, A22, H⟩ := zbind H; have H' := A0_ H; clear H
           try go_wp2
           replace HO_8 := A0_ (rD HO_8.out)
           replace BK216 := A0_ (kD BK216.out)
           replace HB := A0_ (bD HB.out)
           have p221 : 0 ≤ (x10_3 : Int) := zd
           have q221 : x10_3 < (l2.length : Int) := zd
           obtain ⟨ad221, A221_0, c221_0, e221, hx221_0, hl221_0, hi221_0⟩ := at_L1 HR2.out x10_3 p221 q221; have hw221_0 := hx221_0
           cases e221
           try replace hx221_0 := (HB.out.cell (wL w _ hx221_0)).trans hx221_0
           have HR221_0 := A0_ hi221_0; have HC221_0 := A0_ hl221_0; clear hi221_0 hl221_0; replace p221 := eq_true p221; replace q221 := eq_true q221
           have p225 : 0 ≤ (x10_3 : Int) := zd
           have q225 : x10_3 < (l2.length : Int) := zd
           obtain ⟨ad225, A225_0, c225_0, e225, hx225_0, hl225_0, hi225_0⟩ := at_L1 HR2.out x10_3 p225 q225; have hw225_0 := hx225_0
           obtain rfl : ad221 = ad225 := (by injection e225)
           try replace hx225_0 := (HB.out.cell (wL w _ hx225_0)).trans hx225_0
           have HR225_0 := A0_ hi225_0; have HC225_0 := A0_ hl225_0; clear hi225_0 hl225_0; replace p225 := eq_true p225; replace q225 := eq_true q225
           have ea_ := sI (hx221_0.symm.trans hx225_0)
           injection ea_ with ea_ en_ ec_
           subst ea_; subst ec_; clear en_
           refine start_ (n := 18) (S := fun w' => w'.cell? (ad221.add (x10_3).toNat) = some (.slice A221_0 (rd_L1 l2 x10_3).length c221_0) ∧ w'.cell? (ad221.add (x10_3).toNat) = some (.slice A221_0 (rd_L1 l2 x10_3).length c221_0)) (ds := []) #[false, false, false, false, false, false, false, false, false, false, false, false, false, false, false, false, false, false] (by kernel_rfl) rfl rfl ⟨((HB.out.cell (wL w _ hw221_0)).trans hw221_0), ((HB.out.cell (wL w _ hw225_0)).trans hw225_0)⟩ (fun hHeld => ?_); refine with_tabW spec_CoverDeck.tab11 spec_CoverDeck.bits11 (fun HT_ HW_ => ?_)
           generalize wr.drew = w23 at HO_8 BK216 HB HR221_0 HR225_0 hx221_0 hx225_0 hHeld ⊢
           refine zP 0 (some 33) #[true,false,false,false,false,false,false,false,false,false,false,false,false,false,false,false,false,false] ?_
           refine zP 1 (some 34) #[true,true,false,false,false,false,false,false,false,false,false,false,false,false,false,false,false,false] ?_
           refine zP 2 (some 35) #[true,true,true,false,false,false,false,false,false,false,false,false,false,false,false,false,false,false] ?_
           refine zP 3 (some 36) #[true,true,true,true,false,false,false,false,false,false,false,false,false,false,false,false,false,false] ?_
           refine zP 4 (some 37) #[true,true,true,true,true,false,false,false,false,false,false,false,false,false,false,false,false,false] ?_
           refine zP 5 (some 38) #[true,true,true,true,true,true,false,false,false,false,false,false,false,false,false,false,false,false] ?_
           refine zP 8 (some 41) #[true,true,true,true,true,true,false,false,true,false,false,false,false,false,false,false,false,false] ?_
           refine zP 9 (some 42) #[true,true,true,true,true,true,false,false,true,true,false,false,false,false,false,false,false,false] ?_
           refine zP 10 (some 43) #[true,true,true,true,true,true,false,false,true,true,true,false,false,false,false,false,false,false] ?_
           refine zP 12 (some 45) #[true,true,true,true,true,true,false,false,true,true,true,false,true,false,false,false,false,false] ?_
           refine take_ (i := 6) (N := some 39) (v := ?_) (a' := ?_) #[true, true, true, true, true, true, true, false, true, true, true, false, true, false, false, false, false, false] rfl rfl (take_ofW HT_.out HW_.out (by kernel_rfl)) (fun _ _ _ h => h) (Or.inl ⟨by rfl, ?_⟩) hHeld ?_ ?_
           rotate_left
           ·rintro w' ⟨s0, s1⟩
            go_simp
            with_reducible rfl
           rotate_left
           ·simp only [Act.put, List.setIfInBounds_toArray, List.set_cons_zero, List.set_cons_succ, i64_w, i32_w]
            rfl
           refine take_ (i := 11) (N := some 44) (v := ?_) (a' := ?_) #[true, true, true, true, true, true, true, false, true, true, true, true, true, false, false, false, false, false] rfl rfl (take_ofW HT_.out HW_.out (by kernel_rfl)) (fun _ _ _ h => h) (Or.inl ⟨by rfl, ?_⟩) hHeld ?_ ?_
           rotate_left
           ·rintro w' ⟨s0, s1⟩
            go_simp
            with_reducible rfl
           rotate_left
           ·simp only [Act.put, List.setIfInBounds_toArray, List.set_cons_zero, List.set_cons_succ, i64_w, i32_w]
            rfl
           refine one_ (i := 7) (N := some 40) #[true, true, true, true, true, true, true, true, true, true, true, true, true, false, false, false, false, false] rfl rfl (one_of HT_.out (by kernel_rfl)) (by decide) (fun K hK => ?_)
           refine goes_ Try.func67 (by kernel_rfl) rfl #[.slice Ao16 x8_2.length co16, .slice A221_0 (rd_L1 l2 x10_3).length c221_0] (by rfl) rfl rfl (by (try simp only [List.map_toArray, List.map_cons, List.map_nil]); first | done | rfl | (simp only [List.length_drop, List.length_take]; rfl)) ?_
           with_reducible refine (spec_l1Mul.calls k3 _ _ x8_2 _ _ (rd_L1 l2 x10_3) t222 _ ?side1 ?side2 ?side3 ?side4 A20.out).mono ?_
           (case side1 => exact zD HO_8)
           (case side2 => exact (rR HO_8.out).2.1)
           (case side3 => exact zC HR221_0 HB)
           (case side4 => exact HC221_0.out)
           rintro e w24 ⟨v223, rfl, ho0, hb⟩
           refine ⟨_, rfl, ?_⟩
           have HO224 := A0_ (rL (Kd.R_new' ho0 (rX (zR_ HO_8))) (bZ (zB_ HB)))
           replace HO_8 := A0_ (Kd.R_elder' (zR_ HO_8) (Kd.R_base ho0) hb)
           replace BK216 := zK BK216 hb; replace HB := zB HB hb; (try clear hb); (try clear hb2); (try clear hk); (try clear hi); (try clear ho0)
           refine hK.out _ _ ⟨((HB.out.cell (wL w _ hw221_0)).trans hw221_0), ((HB.out.cell (wL w _ hw225_0)).trans hw225_0)⟩ (fun hHeld => ?_)
           clear hK K
           refine norm_ (a' := ?_) ?_ ?_
           rotate_left
           ·show Act.put _ (some 40) _ = _
            simp only [Act.put, List.setIfInBounds_toArray, List.set_cons_zero, List.set_cons_succ, i64_w, i32_w]
            rfl
           refine one_ (i := 13) (N := some 46) #[true, true, true, true, true, true, true, true, true, true, true, true, true, true, false, false, false, false] rfl rfl (one_of HT_.out (by kernel_rfl)) (by decide) (fun K hK => ?_)
           refine goes_ Try.func67 (by kernel_rfl) rfl #[.slice A221_0 (rd_L1 l2 x10_3).length c221_0, .slice Ao16 x8_2.length co16] (by rfl) rfl rfl (by (try simp only [List.map_toArray, List.map_cons, List.map_nil]); first | done | rfl | (simp only [List.length_drop, List.length_take]; rfl)) ?_
           with_reducible refine (spec_l1Mul.calls k3 _ _ (rd_L1 l2 x10_3) _ _ x8_2 t226 _ ?side1 ?side2 ?side3 ?side4 A21.out).mono ?_
           (case side1 => exact zC HR225_0 HB)
           (case side2 => exact HC225_0.out)
           (case side3 => exact zD HO_8)
           (case side4 => exact (rR HO_8.out).2.1)
           rintro e w25 ⟨v227, rfl, ho0, hb⟩
           refine ⟨_, rfl, ?_⟩
           have HO228 := A0_ (rL (Kd.R_new' (Kd.R_new' ho0 (rX (zR_ HO_8))) (rX (zR_ HO224))) (bZ (zB_ HB)))
           replace HO_8 := A0_ (Kd.R_elder' (zR_ HO_8) (Kd.R_base ho0) hb)
           replace HO224 := A0_ (Kd.R_elder' (zR_ HO224) (Kd.R_base ho0) hb)
           replace BK216 := zK BK216 hb; replace HB := zB HB hb; (try clear hb); (try clear hb2); (try clear hk); (try clear hi); (try clear ho0); obtain ⟨Ao26, co26, eo26⟩ := rS HO224.out
           (first | subst eo26 | (injection eo26 with f1_ f2_ f3_; have f4_ := f1_.symm; have f5_ := f3_.symm; clear f1_ f2_ f3_; subst f4_; subst f5_))
           obtain ⟨Ao27, co27, eo27⟩ := rS HO228.out
           (first | subst eo27 | (injection eo27 with f1_ f2_ f3_; have f4_ := f1_.symm; have f5_ := f3_.symm; clear f1_ f2_ f3_; subst f4_; subst f5_))
           refine hK.out _ _ ⟨((HB.out.cell (wL w _ hw221_0)).trans hw221_0), ((HB.out.cell (wL w _ hw225_0)).trans hw225_0)⟩ (fun hHeld => ?_)
           clear hK K
           refine norm_ (a' := ?_) ?_ ?_
           rotate_left
           ·show Act.put _ (some 46) _ = _
            simp only [Act.put, List.setIfInBounds_toArray, List.set_cons_zero, List.set_cons_succ, i64_w, i32_w]
            rfl
           refine one_ (i := 14) (N := some 47) #[true, true, true, true, true, true, true, true, true, true, true, true, true, true, true, false, false, false] rfl rfl (one_of HT_.out (by kernel_rfl)) (by decide) (fun K hK => ?_)
           refine goes_ Try.func66 (by kernel_rfl) rfl #[.slice Ao26 t222.length co26, .slice Ao27 t226.length co27] (by rfl) rfl rfl (by (try simp only [List.map_toArray, List.map_cons, List.map_nil]); first | done | rfl | (simp only [List.length_drop, List.length_take]; rfl)) ?_
           with_reducible refine (spec_l2Order.calls k3 _ _ t222 _ _ t226 t229 _ ?side1 ?side2 ?side3 ?side4 A22.out).mono ?_
           (case side1 => exact zD HO224)
           (case side2 => exact (rR HO224.out).2.1)
           (case side3 => exact zD HO228)
           (case side4 => exact (rR HO228.out).2.1)
           rintro e w' ⟨rfl, ⟨nd, rfl⟩⟩
           refine ⟨_, rfl, ?_⟩
           refine hK.out _ _ ⟨((HB.out.cell (wL w _ hw221_0)).trans hw221_0), ((HB.out.cell (wL w _ hw225_0)).trans hw225_0)⟩ (fun hHeld => ?_)
           clear hK K
           refine norm_ (a' := ?_) ?_ ?_
           rotate_left
           ·show Act.put _ (some 47) _ = _
            simp only [Act.put, List.setIfInBounds_toArray, List.set_cons_zero, List.set_cons_succ, i64_w, i32_w]
            rfl
           refine zP 15 (some 48) #[true,true,true,true,true,true,true,true,true,true,true,true,true,true,true,true,false,false] ?_
           refine zP 16 (some 49) #[true,true,true,true,true,true,true,true,true,true,true,true,true,true,true,true,true,false] ?_
           refine zP 17 (some 9) #[true,true,true,true,true,true,true,true,true,true,true,true,true,true,true,true,true,true] ?_
           refine done_ (done_of HT_.out (by kernel_rfl)) ?_
           try go_wp2
           go_roundg k3
           case measure => have := HJ3.out; have := HK2.out; have := HK3.out; omega
           case rel => exact ⟨((t229 == 0)), (wrap64 (x10_3 + 1)), zt, zt, H', ⟨by have := HJ3.out; have := HK2.out; have := HK3.out; omega⟩, ⟨zmR HO_8 (fun _ hk => trivial)⟩, ⟨zK_ BK216⟩, ⟨zB_ HB⟩⟩
          rw [if_neg c19] at H
          exact absurd H (by simp)
         replace c18 := Bool.eq_false_iff.mpr c18; subst c18
         rw [if_neg (show ¬ (false = true) by decide)] at H
         have H' := A0_ H; clear H
         try go_wp2
         replace HO_8 := A0_ (rD HO_8.out)
         replace BK216 := A0_ (kD BK216.out)
         replace HB := A0_ (bD HB.out)
         refine start_ (n := 18) (S := fun w' => True) (ds := []) #[false, false, false, false, false, false, false, false, false, false, false, false, false, false, false, false, false, false] (by kernel_rfl) rfl rfl trivial (fun hHeld => ?_); refine with_tabW spec_CoverDeck.tab11 spec_CoverDeck.bits11 (fun HT_ HW_ => ?_)
         generalize wr.drew = w28 at HO_8 BK216 HB hHeld ⊢
         refine zP 0 (some 33) #[true,false,false,false,false,false,false,false,false,false,false,false,false,false,false,false,false,false] ?_
         refine zP 1 (some 34) #[true,true,false,false,false,false,false,false,false,false,false,false,false,false,false,false,false,false] ?_
         refine pure_ (i := 2) (N := some 35) (v := undef) (a' := ?_) #[true, true, true, false, false, false, false, false, false, false, false, false, false, false, false, false, false, false] rfl rfl (any_of HT_.out (by kernel_rfl)) (fun _ _ _ h => h) (Or.inr ⟨by rfl, rfl⟩) ?_ ?_
         rotate_left
         ·simp only [Act.put, List.setIfInBounds_toArray, List.set_cons_zero, List.set_cons_succ, i64_w, i32_w]
          rfl
         refine pure_ (i := 3) (N := some 36) (v := undef) (a' := ?_) #[true, true, true, true, false, false, false, false, false, false, false, false, false, false, false, false, false, false] rfl rfl (any_of HT_.out (by kernel_rfl)) (fun _ _ _ h => h) (Or.inr ⟨by rfl, rfl⟩) ?_ ?_
         rotate_left
         ·simp only [Act.put, List.setIfInBounds_toArray, List.set_cons_zero, List.set_cons_succ, i64_w, i32_w]
          rfl
         refine pure_ (i := 4) (N := some 37) (v := undef) (a' := ?_) #[true, true, true, true, true, false, false, false, false, false, false, false, false, false, false, false, false, false] rfl rfl (any_of HT_.out (by kernel_rfl)) (fun _ _ _ h => h) (Or.inr ⟨by rfl, rfl⟩) ?_ ?_
         rotate_left
         ·simp only [Act.put, List.setIfInBounds_toArray, List.set_cons_zero, List.set_cons_succ, i64_w, i32_w]
          rfl
         refine pure_ (i := 5) (N := some 38) (v := undef) (a' := ?_) #[true, true, true, true, true, true, false, false, false, false, false, false, false, false, false, false, false, false] rfl rfl (any_of HT_.out (by kernel_rfl)) (fun _ _ _ h => h) (Or.inr ⟨by rfl, rfl⟩) ?_ ?_
         rotate_left
         ·simp only [Act.put, List.setIfInBounds_toArray, List.set_cons_zero, List.set_cons_succ, i64_w, i32_w]
          rfl
         refine pure_ (i := 6) (N := some 39) (v := undef) (a' := ?_) #[true, true, true, true, true, true, true, false, false, false, false, false, false, false, false, false, false, false] rfl rfl (any_of HT_.out (by kernel_rfl)) (fun _ _ _ h => h) (Or.inr ⟨by rfl, rfl⟩) ?_ ?_
         rotate_left
         ·simp only [Act.put, List.setIfInBounds_toArray, List.set_cons_zero, List.set_cons_succ, i64_w, i32_w]
          rfl
         refine pure_ (i := 7) (N := some 40) (v := undef) (a' := ?_) #[true, true, true, true, true, true, true, true, false, false, false, false, false, false, false, false, false, false] rfl rfl (any_of HT_.out (by kernel_rfl)) (fun _ _ _ h => h) (Or.inr ⟨by rfl, rfl⟩) ?_ ?_
         rotate_left
         ·simp only [Act.put, List.setIfInBounds_toArray, List.set_cons_zero, List.set_cons_succ, i64_w, i32_w]
          rfl
         refine pure_ (i := 8) (N := some 41) (v := undef) (a' := ?_) #[true, true, true, true, true, true, true, true, true, false, false, false, false, false, false, false, false, false] rfl rfl (any_of HT_.out (by kernel_rfl)) (fun _ _ _ h => h) (Or.inr ⟨by rfl, rfl⟩) ?_ ?_
         rotate_left
         ·simp only [Act.put, List.setIfInBounds_toArray, List.set_cons_zero, List.set_cons_succ, i64_w, i32_w]
          rfl
         refine pure_ (i := 9) (N := some 42) (v := undef) (a' := ?_) #[true, true, true, true, true, true, true, true, true, true, false, false, false, false, false, false, false, false] rfl rfl (any_of HT_.out (by kernel_rfl)) (fun _ _ _ h => h) (Or.inr ⟨by rfl, rfl⟩) ?_ ?_
         rotate_left
         ·simp only [Act.put, List.setIfInBounds_toArray, List.set_cons_zero, List.set_cons_succ, i64_w, i32_w]
          rfl
         refine pure_ (i := 10) (N := some 43) (v := undef) (a' := ?_) #[true, true, true, true, true, true, true, true, true, true, true, false, false, false, false, false, false, false] rfl rfl (any_of HT_.out (by kernel_rfl)) (fun _ _ _ h => h) (Or.inr ⟨by rfl, rfl⟩) ?_ ?_
         rotate_left
         ·simp only [Act.put, List.setIfInBounds_toArray, List.set_cons_zero, List.set_cons_succ, i64_w, i32_w]
          rfl
         refine pure_ (i := 11) (N := some 44) (v := undef) (a' := ?_) #[true, true, true, true, true, true, true, true, true, true, true, true, false, false, false, false, false, false] rfl rfl (any_of HT_.out (by kernel_rfl)) (fun _ _ _ h => h) (Or.inr ⟨by rfl, rfl⟩) ?_ ?_
         rotate_left
         ·simp only [Act.put, List.setIfInBounds_toArray, List.set_cons_zero, List.set_cons_succ, i64_w, i32_w]
          rfl
         refine pure_ (i := 12) (N := some 45) (v := undef) (a' := ?_) #[true, true, true, true, true, true, true, true, true, true, true, true, true, false, false, false, false, false] rfl rfl (any_of HT_.out (by kernel_rfl)) (fun _ _ _ h => h) (Or.inr ⟨by rfl, rfl⟩) ?_ ?_
         rotate_left
         ·simp only [Act.put, List.setIfInBounds_toArray, List.set_cons_zero, List.set_cons_succ, i64_w, i32_w]
          rfl
         refine pure_ (i := 13) (N := some 46) (v := undef) (a' := ?_) #[true, true, true, true, true, true, true, true, true, true, true, true, true, true, false, false, false, false] rfl rfl (any_of HT_.out (by kernel_rfl)) (fun _ _ _ h => h) (Or.inr ⟨by rfl, rfl⟩) ?_ ?_
         rotate_left
         ·simp only [Act.put, List.setIfInBounds_toArray, List.set_cons_zero, List.set_cons_succ, i64_w, i32_w]
          rfl
         refine pure_ (i := 14) (N := some 47) (v := undef) (a' := ?_) #[true, true, true, true, true, true, true, true, true, true, true, true, true, true, true, false, false, false] rfl rfl (any_of HT_.out (by kernel_rfl)) (fun _ _ _ h => h) (Or.inr ⟨by rfl, rfl⟩) ?_ ?_
         rotate_left
         ·simp only [Act.put, List.setIfInBounds_toArray, List.set_cons_zero, List.set_cons_succ, i64_w, i32_w]
          rfl
         refine pure_ (i := 15) (N := some 48) (v := undef) (a' := ?_) #[true, true, true, true, true, true, true, true, true, true, true, true, true, true, true, true, false, false] rfl rfl (any_of HT_.out (by kernel_rfl)) (fun _ _ _ h => h) (Or.inr ⟨by rfl, rfl⟩) ?_ ?_
         rotate_left
         ·simp only [Act.put, List.setIfInBounds_toArray, List.set_cons_zero, List.set_cons_succ, i64_w, i32_w]
          rfl
         refine zP 16 (some 49) #[true,true,true,true,true,true,true,true,true,true,true,true,true,true,true,true,true,false] ?_
         refine zP 17 (some 9) #[true,true,true,true,true,true,true,true,true,true,true,true,true,true,true,true,true,true] ?_
         refine done_ (done_of HT_.out (by kernel_rfl)) ?_
         try go_wp2
         go_roundg k3
         case measure => have := HJ3.out; have := HK2.out; have := HK3.out; omega
         case rel => exact ⟨(false), (wrap64 (x10_3 + 1)), zt, zt, H', ⟨by have := HJ3.out; have := HK2.out; have := HK3.out; omega⟩, ⟨zR_ HO_8⟩, ⟨zK_ BK216⟩, ⟨zB_ HB⟩⟩
        rw [if_neg c17] at H; have c17b0 := dF c17; clear c17
        by_cases c29 : x9_3 = true
        ·subst c29
         rw [if_pos rfl] at H; obtain ⟨t230, A30, H⟩ := zbind H; have H' := A0_ H; clear H
         go_wp2_with (first | ((with_reducible refine gC (f := 65) rfl ?_); refine zJ (some 26) Try.func65 #[.slice Ao16 x8_2.length co16] ?_; (with_reducible refine (spec_l3Next.calls k3 _ _ x8_2 t230 _ ?side1 ?side2 A30.out).mono ?_); (case side1 => exact zD HO_8); (case side2 => exact (rR HO_8.out).2.1); rintro e w31 ⟨v231, rfl, ho0, hb⟩; refine ⟨_, rfl, ?_⟩; have HO232 := A0_ (rL (Kd.R_new' ho0 (rX (zR_ HO_8))) (bZ (zB_ HB))); replace HO_8 := A0_ (Kd.R_elder' (zR_ HO_8) (Kd.R_base ho0) hb); replace BK216 := zK BK216 hb; replace HB := zB HB hb; (try clear hb); (try clear ho0)))
         go_roundg k3
         case measure => have := HJ3.out; have := HK2.out; have := HK3.out; omega
         case rel => exact ⟨(wrap64 (x7_2 + 1)), (t230), zt, H', ⟨by have := HJ3.out; have := HK2.out; have := HK3.out; omega⟩, ⟨zmR HO232 (fun _ hk => trivial)⟩, ⟨zK_ BK216⟩, ⟨zB_ HB⟩⟩
        replace c29 := Bool.eq_false_iff.mpr c29; subst c29
        rw [if_neg (show ¬ (false = true) by decide)] at H
        obtain ⟨t233, A32, H⟩ := zbind H; have H' := A0_ H; clear H
        go_wp2_with (first | ((with_reducible refine gC (f := 65) rfl ?_); refine zJ (some 26) Try.func65 #[.slice Ao16 x8_2.length co16] ?_; (with_reducible refine (spec_l3Next.calls k3 _ _ x8_2 t233 _ ?side1 ?side2 A32.out).mono ?_); (case side1 => exact zD HO_8); (case side2 => exact (rR HO_8.out).2.1); rintro e w33 ⟨v234, rfl, ho0, hb⟩; refine ⟨_, rfl, ?_⟩; have HO235 := A0_ (rL (Kd.R_new' ho0 (rX (zR_ HO_8))) (bZ (zB_ HB))); replace HO_8 := A0_ (Kd.R_elder' (zR_ HO_8) (Kd.R_base ho0) hb); replace BK216 := zK BK216 hb; replace HB := zB HB hb; (try clear hb); (try clear ho0)))
        go_roundg k3
        case measure => have := HJ3.out; have := HK2.out; have := HK3.out; omega
        case rel => exact ⟨(x7_2), (t233), zt, H', ⟨by have := HJ3.out; have := HK2.out; have := HK3.out; omega⟩, ⟨zmR HO235 (fun _ hk => trivial)⟩, ⟨zK_ BK216⟩, ⟨zB_ HB⟩⟩
     rw [if_neg c15] at H
     have c15b0 : decide (0 < (x8_2.length : Int)) = false := dF c15
     have c15b1 : decide (0 < x8_2.length) = false := dF (by omega)
     clear c15; obtain rfl := sI H; obtain ⟨Ao34, co34, eo34⟩ := rS HO_8.out; subst eo34
     go_wp2
     go_ret
     exact ⟨by first | rfl | (simp [*] <;> rfl), zB_ HB⟩

end Go.Proofs.Ytmcgkckdnelcdaa.PFnExactCoverDeck
