-- Made by a program of this session (wip/tools) out of the loaded program; not trusted: Lean checks it.
import Derived.Test.YtmcgkckdnelcdaaPFnExactCoverDeckx0
import Derived.Test.YtmcgkckdnelcdaaPFnExactCoverDeckx6
-- packed
namespace Go.Proofs.Ytmcgkckdnelcdaa.PFnExactCoverDeck
open Go.RowKit Go.Proofs.YtmcgkckdnelcdaaW.PrintWords Go.Proofs.YtmcgkckdnelcdaaW.PrintLast Go.Proofs.YtmcgkckdnelcdaaW.PrintMore
attribute [local go_sem] max2_int min2_int max_two min_two max_three min_three max_four min_four   -- for this text's walks alone
set_option linter.unusedVariables false
set_option linter.unusedSimpArgs false

/-! ### impl_mul: function 71 -/
def impl_mul.l0 : Nat → List Int → List Int → List Int → Int → Int → Option (List Int)
  | 0, _, _, _, _, _ => none
  | k + 1, x1, x5, x11, x12, x13 => if x13 < x12 then (if 0 ≤ x13 then (if x13 < (x11.length : Int) then (if 0 ≤ (rd x11 x13) then (if (rd x11 x13) < (x1.length : Int) then (if x13 < (x5.length : Int) then (impl_mul.l0 k x1 (x5.set (x13 : Int).toNat (rd x1 (rd x11 x13))) x11 x12 (wrap64 (x13 + 1))) else (none)) else (none)) else (none)) else (none)) else (none)) else (some x5)
def impl_mul.f (k : Nat) (l0 : List Int) (l1 : List Int) : Option (List Int) := if 0 ≤ (l0.length : Int) then (if ((l0.length : Int) : Int).toNat ≤ 35184372088832 then (impl_mul.l0 k l1 (List.replicate ((l0.length : Int) : Int).toNat 0) l0 (l0.length : Int) 0) else (none)) else (none)
set_option maxHeartbeats 8000000 in
set_option maxRecDepth 100000 in
theorem impl_mul.calls (k : Nat) (A0 : Option Addr) (c0 : Nat) (l0 : List Int) (A1 : Option Addr) (c1 : Nat) (l1 : List Int) (r : List Int) (w : World) (hr0 : Kd.C (Kd.int .i64) w A0 l0.length l0) (hc0 : l0.length ≤ c0) (hr1 : Kd.C (Kd.int .i64) w A1 l1.length l1) (hc1 : l1.length ≤ c1) (h : impl_mul.f k l0 l1 = some r) :
    Calls Try.prog 71 #[.slice A0 l0.length c0, .slice A1 l1.length c1] w fun e w' => ∃ v0_ : Value, e = .returned (v0_) ∧ Kd.R (Kd.int .i64) 3 w' w.heap.size (fun _ => True) v0_ r ∧ Below w.heap.size w w' := by
 have HR0 := A0_ hr0; have HC0 := A0_ hc0; clear hr0 hc0; have HR1 := A0_ hr1; have HC1 := A0_ hc1; clear hr1 hc1
 have HB := A0_ (Below.refl w.heap.size w)
 have H : (if 0 ≤ (l0.length : Int) then (if ((l0.length : Int) : Int).toNat ≤ 35184372088832 then (impl_mul.l0 k l1 (List.replicate ((l0.length : Int) : Int).toNat 0) l0 (l0.length : Int) 0) else (none)) else (none)) = some r := h
 clear h
 by_cases c3 : 0 ≤ (l0.length : Int)
 ·rw [if_pos c3] at H
  have c3b0 := eq_true c3; have c3b1 := dT c3; clear c3
  by_cases c4 : ((l0.length : Int) : Int).toNat ≤ 35184372088832
  ·rw [if_pos c4] at H
   have c4b0 := eq_true c4; have c4b1 := dT c4; clear c4
   obtain ⟨y272, hy272⟩ : ∃ y_ : List Int, y_ = (List.replicate ((l0.length : Int) : Int).toNat 0) := ⟨_, rfl⟩
   replace H : (impl_mul.l0 k l1 y272 l0 (l0.length : Int) 0) = some r := zH hy272 H
   have Ny272 := A0_ hy272; clear hy272; have H' := A0_ H; clear H
   go_enter Try.func71, Try.ntmps71
   go_wp2_with (first | ((with_reducible refine gD (N := 10) rfl ?_); refine Kd.R_make (Kd.int .i64) _ 3 rfl (N := 10) rfl 22 _ _ rfl (l0.length : Int) rfl rfl Try.underlying22 (.int .i64 0) 8 info3 rfl (by decide) (by omega) 0 (ok := fun _ => True) (okp := fun _ => True) rfl (fun _ hk => hk) trivial (zd) (Nat.le_trans (Nat.mul_le_mul_right _ (zd : (l0.length : Int).toNat ≤ 35184372088832)) (by omega)) (Below.refl _ _) (Nat.le_refl _) ?_; intro v273 w5 ho6 hb hg_ hnew_; clear hg_ hnew_; (first | rw [← Ny272.out] at ho6 | (simp only [Int.reduceToNat] at ho6; rw [← Ny272.out] at ho6)); have HO274 := A0_ (rL ho6 (bZ (zB_ HB))); replace HB := zB HB hb; clear hb ho6))
   go_loopg [13] k (fun kq v13 w' => ∃ (x5_1 : List Int) (x13_1 : Int), v13 = .int .i64 x13_1 ∧ Aside0 (impl_mul.l0 kq l1 x5_1 l0 (l0.length : Int) x13_1 = some r) ∧ Aside0 (kq ≤ k) ∧ Aside0 (Kd.R (Kd.int .i64) 3 w' w.heap.size (fun _ => True) v273 x5_1) ∧ Aside0 (Below w.heap.size w w'))
   case atStart => exact ⟨(y272), (0), zt, H', ⟨Nat.le_refl _⟩, ⟨zR_ HO274⟩, ⟨zB_ HB⟩⟩
   case round =>
    clear H'; (try clear c1); (try clear p2); (try clear c3); (try clear c3b0); (try clear c3b1); (try clear c4); (try clear c4b0); (try clear c4b1); obtain ⟨x5_1, x13_1, rfl, HA, HK1, HO_5, HB⟩ := hrel
    cases gk with
    | zero => exact absurd HA.out (by simp [impl_mul.l0])
    | succ k1 =>
     have H := HA.out; clear HA; simp only [impl_mul.l0] at H
     by_cases c7 : x13_1 < (l0.length : Int)
     ·rw [if_pos c7] at H
      have c7b0 := dT c7; clear c7
      by_cases c8 : 0 ≤ x13_1
      ·rw [if_pos c8] at H
       have c8b0 := dT c8; clear c8
       by_cases c9 : x13_1 < (l0.length : Int)
       ·rw [if_pos c9] at H
        have c9b0 := dT c9; clear c9
        by_cases c10 : 0 ≤ (rd l0 x13_1)
        ·rw [if_pos c10] at H
         have c10b0 := dT c10; clear c10
         by_cases c11 : (rd l0 x13_1) < (l1.length : Int)
         ·rw [if_pos c11] at H
          have c11b0 := dT c11; clear c11
          by_cases c12 : x13_1 < (x5_1.length : Int)
          ·rw [if_pos c12] at H
           have c12b0 := dT c12; clear c12
           obtain ⟨y277, hy277⟩ : ∃ y_ : List Int, y_ = (x5_1.set (x13_1 : Int).toNat (rd l1 (rd l0 x13_1))) := ⟨_, rfl⟩
           replace H : (impl_mul.l0 k1 l1 y277 l0 (l0.length : Int) (wrap64 (x13_1 + 1))) = some r := zH hy277 H
           have Ny277 := A0_ hy277; clear hy277; have H' := A0_ H; clear H
           have p275 : 0 ≤ (x13_1 : Int) := zd
           have q275 : x13_1 < (l0.length : Int) := zd
           obtain ⟨ad275, e275, hx275_0⟩ := tI HR0.out x13_1 p275 q275
           cases e275
           try replace hx275_0 := (HB.out.cell (wL w _ hx275_0)).trans hx275_0
           replace p275 := eq_true p275; replace q275 := eq_true q275
           have p276 : 0 ≤ ((rd l0 x13_1) : Int) := zd
           have q276 : (rd l0 x13_1) < (l1.length : Int) := zd
           obtain ⟨ad276, e276, hx276_0⟩ := tI HR1.out (rd l0 x13_1) p276 q276
           cases e276
           try replace hx276_0 := (HB.out.cell (wL w _ hx276_0)).trans hx276_0
           replace p276 := eq_true p276; replace q276 := eq_true q276
           have p13 : 0 ≤ (x13_1 : Int) := zd
           have q13 : (x13_1 : Int) < ((x5_1.length : Int) : Int) := zd
           obtain ⟨go13, co13, eo13, gb13, gl13, cl13, HG13⟩ := Kd.R_form HO_5.out (by omega)
           (first | cases eo13 | (injection eo13 with ea_ en_ ec_; (first | subst ea_ | (injection ea_ with ea_; subst ea_)); subst ec_; clear en_))
           have GB13 := A0_ gb13; have GG13 := A0_ HG13; clear gb13 gl13 HG13
           obtain ⟨hx13_0, hf13_0⟩ := Kd.R_celln 0 HO_5.out (x13_1 : Int) p13 q13
           replace p13 := eq_true p13; replace q13 := eq_true q13
           have HP14 := Kd.R_putg HO_5.out (x13_1 : Int) (rd l1 (rd l0 x13_1))
           go_wp2_with (first | ((with_reducible refine gS (t := 3) (p := 24) rfl ?_); refine store_event (t := 3) (p := 24) (v := ?vo_w15) (w1 := (wr.setCell ⟨go13, (x13_1 : Int).toNat, none⟩ (.int .i64 (rd l1 (rd l0 x13_1))))) ?hg ?ho ?hn ?hr ?_; (case ho => rfl); (case hg => rfl); (case hn => rfl); (case hr => first | (go_simp; done) | (go_simp; rfl)); intro w15 hw; have hg : wr.grownBy w15 (some go13) := (by rw [hw]; exact HP14.2); have hp_ : Kd.R (Kd.int .i64) 3 w15 w.heap.size (fun _ => True) (.slice (some ⟨go13, 0, none⟩) x5_1.length co13) y277 := (by rw [hw, Ny277.out]; exact HP14.1); clear HP14; replace HO_5 := A0_ (hp_); replace HB := A0_ ((by rw [hw]; exact bS (HB.out) GB13.out : Below w.heap.size w w15)); clear hg hw hp_))
           go_roundg k1
           case measure => have := HK1.out; omega
           case rel => exact ⟨(y277), (wrap64 (x13_1 + 1)), zt, H', ⟨by have := HK1.out; omega⟩, ⟨zR_ HO_5⟩, ⟨zB_ HB⟩⟩
          rw [if_neg c12] at H
          exact absurd H (by simp)
         rw [if_neg c11] at H
         exact absurd H (by simp)
        rw [if_neg c10] at H
        exact absurd H (by simp)
       rw [if_neg c9] at H
       exact absurd H (by simp)
      rw [if_neg c8] at H
      exact absurd H (by simp)
     rw [if_neg c7] at H; have c7b0 := dF c7; clear c7; obtain rfl := sI H
     go_wp2
     go_ret
     exact ⟨_, by first | rfl | (simp [*] <;> rfl), zR_ HO_5, zB_ HB⟩
  rw [if_neg c4] at H
  exact absurd H (by simp)
 rw [if_neg c3] at H
 exact absurd H (by simp)

/-! ### slices_Index_int_int: function 109 -/
def slices_Index_int_int.l0 : Nat → List Int → Int → Int → Int → Option (Int)
  | 0, _, _, _, _ => none
  | k + 1, x0, x1, x7, x8 => if x8 < x7 then (if 0 ≤ x8 then (if x8 < (x0.length : Int) then (if x1 = (rd x0 x8) then (some x8) else (slices_Index_int_int.l0 k x0 x1 x7 (wrap64 (x8 + 1)))) else (none)) else (none)) else (some (-1))
def slices_Index_int_int.f (k : Nat) (l0 : List Int) (a1 : Int) : Option (Int) := slices_Index_int_int.l0 k l0 a1 (l0.length : Int) 0
set_option maxHeartbeats 8000000 in
set_option maxRecDepth 100000 in
theorem slices_Index_int_int.calls (k : Nat) (A0 : Option Addr) (c0 : Nat) (l0 : List Int) (a1 : Int) (r : Int) (w : World) (hr0 : Kd.C (Kd.int .i64) w A0 l0.length l0) (hc0 : l0.length ≤ c0) (h : slices_Index_int_int.f k l0 a1 = some r) :
    Calls Try.prog 109 #[.slice A0 l0.length c0, .int .i64 a1] w fun e w' => e = .returned (.int .i64 r) ∧ Drawn0 w w' := by
 have HR0 := A0_ hr0; have HC0 := A0_ hc0; clear hr0 hc0
 have H : (slices_Index_int_int.l0 k l0 a1 (l0.length : Int) 0) = some r := h
 clear h; have H' := A0_ H; clear H
 go_enter Try.func109, Try.ntmps109
 go_wp2
 go_loopg [8] k (fun kq v8 w' => ∃ (x8_1 : Int), v8 = .int .i64 x8_1 ∧ Aside0 (slices_Index_int_int.l0 kq l0 a1 (l0.length : Int) x8_1 = some r) ∧ Aside0 (kq ≤ k) ∧ Drawn0 w w')
 case atStart => exact ⟨(0), zt, H', ⟨Nat.le_refl _⟩, by repeat (first | exact Drawn0.refl _ | apply Drawn0.step)⟩
 case round =>
  clear H'; (try clear c1); (try clear p2); obtain ⟨x8_1, rfl, HA, HK1, ⟨m1, rfl⟩⟩ := hrel
  cases gk with
  | zero => exact absurd HA.out (by simp [slices_Index_int_int.l0])
  | succ k1 =>
   have H := HA.out; clear HA; simp only [slices_Index_int_int.l0] at H
   by_cases c3 : x8_1 < (l0.length : Int)
   ·rw [if_pos c3] at H
    have c3b0 := dT c3; clear c3
    by_cases c4 : 0 ≤ x8_1
    ·rw [if_pos c4] at H
     have c4b0 := dT c4; clear c4
     by_cases c5 : x8_1 < (l0.length : Int)
     ·rw [if_pos c5] at H
      have c5b0 := dT c5; clear c5
      by_cases c6 : a1 = (rd l0 x8_1)
      ·rw [if_pos c6] at H
       have c6b0 : (a1 == (rd l0 x8_1)) = true := beq_iff_eq.mpr c6
       have c6b1 : (a1 != (rd l0 x8_1)) = false := bne_eq_false_iff_eq.mpr c6
       clear c6; obtain rfl := sI H
       have p278 : 0 ≤ (x8_1 : Int) := zd
       have q278 : x8_1 < (l0.length : Int) := zd
       obtain ⟨ad278, e278, hx278_0⟩ := tI HR0.out x8_1 p278 q278
       cases e278
       replace p278 := eq_true p278; replace q278 := eq_true q278
       go_wp2
       go_ret
       exact ⟨by first | rfl | (simp; done) | (simp [*]; done), by repeat (first | exact Drawn0.refl _ | apply Drawn0.step)⟩
      rw [if_neg c6] at H
      have c6b0 : (a1 == (rd l0 x8_1)) = false := beq_eq_false_iff_ne.mpr c6
      have c6b1 : (a1 != (rd l0 x8_1)) = true := bne_iff_ne.mpr c6
      have H' := A0_ H; clear H
      have p278 : 0 ≤ (x8_1 : Int) := zd
      have q278 : x8_1 < (l0.length : Int) := zd
      obtain ⟨ad278, e278, hx278_0⟩ := tI HR0.out x8_1 p278 q278
      cases e278
      replace p278 := eq_true p278; replace q278 := eq_true q278
      go_wp2
      go_roundg k1
      case measure => have := HK1.out; omega
      case rel => exact ⟨(wrap64 (x8_1 + 1)), zt, H', ⟨by have := HK1.out; omega⟩, by repeat (first | exact Drawn0.refl _ | apply Drawn0.step)⟩
     rw [if_neg c5] at H
     exact absurd H (by simp)
    rw [if_neg c4] at H
    exact absurd H (by simp)
   rw [if_neg c3] at H; have c3b0 := dF c3; clear c3; obtain rfl := sI H
   go_wp2
   go_ret
   exact ⟨by first | rfl | (simp; done) | (simp [*]; done), by repeat (first | exact Drawn0.refl _ | apply Drawn0.step)⟩

/-! ### slices_Contains_int_int: function 101 -/
def slices_Contains_int_int.f (k : Nat) (l0 : List Int) (a1 : Int) : Option (Bool) := (slices_Index_int_int.f k l0 a1).bind fun t279 => (some (decide (t279 ≥ 0)))
set_option maxHeartbeats 8000000 in
set_option maxRecDepth 100000 in
theorem slices_Contains_int_int.calls (k : Nat) (A0 : Option Addr) (c0 : Nat) (l0 : List Int) (a1 : Int) (r : Bool) (w : World) (hr0 : Kd.C (Kd.int .i64) w A0 l0.length l0) (hc0 : l0.length ≤ c0) (h : slices_Contains_int_int.f k l0 a1 = some r) :
    Calls Try.prog 101 #[.slice A0 l0.length c0, .int .i64 a1] w fun e w' => e = .returned (.bool r) ∧ Drawn0 w w' := by
 have HR0 := A0_ hr0; have HC0 := A0_ hc0; clear hr0 hc0
 have H : ((slices_Index_int_int.f k l0 a1).bind fun t279 => (some (decide (t279 ≥ 0)))) = some r := h
 clear h; obtain ⟨t279, A3, H⟩ := zbind H; obtain rfl := sI H
 go_enter Try.func101, Try.ntmps101
 go_wp2_with (first | ((with_reducible refine gC (f := 109) rfl ?_); refine zJ (some 7) Try.func109 #[.slice A0 l0.length c0, .int .i64 a1] ?_; (with_reducible refine (slices_Index_int_int.calls k _ _ l0 a1 t279 _ ?side1 ?side2 A3.out).mono ?_); (case side1 => repeat (first | exact HR0.out | (with_reducible refine cA ?_ _))); (case side2 => exact HC0.out); rintro e w' ⟨rfl, ⟨nd, rfl⟩⟩; refine ⟨_, rfl, ?_⟩))
 go_ret
 exact ⟨by first | rfl | (simp; done) | (simp [*]; done), by repeat (first | exact Drawn0.refl _ | apply Drawn0.step)⟩

/-! ### slices_Clone_int_int: function 102 -/
def slices_Clone_int_int.f (l0 : List Int) : Option (List Int) := if l0.length ≤ 1048576 then some l0 else none
set_option maxHeartbeats 8000000 in
set_option maxRecDepth 100000 in
theorem slices_Clone_int_int.calls (A0 : Option Addr) (c0 : Nat) (l0 : List Int) (r : List Int) (w : World) (hr0 : Kd.C (Kd.int .i64) w A0 l0.length l0) (hc0 : l0.length ≤ c0) (h : slices_Clone_int_int.f l0 = some r) :
    Calls Try.prog 102 #[.slice A0 l0.length c0] w fun e w' => ∃ v0_ : Value, e = .returned (v0_) ∧ Kd.R (Kd.int .i64) 3 w' w.heap.size (fun _ => True) v0_ r ∧ Below w.heap.size w w' := by
  unfold slices_Clone_int_int.f at h
  by_cases hl : l0.length ≤ 1048576
  · rw [if_pos hl] at h
    obtain rfl := sI h; clear h; have HR0 := A0_ hr0; have HC0 := A0_ hc0; have HL := A0_ hl; clear hr0 hc0 hl
    have HB := A0_ (Below.refl w.heap.size w)
    have he : ∀ w : World, (Go.binOp .eql 22 (.slice A0 l0.length c0) (.slice none 0 0)).run Try.prog w = .ok (.bool A0.isNone) w := fun w => by cases A0 <;> kernel_rfl
    cases A0 with
    | none =>
      have hz : l0 = [] := by
        rcases Nat.eq_zero_or_pos l0.length with z | z
        · exact List.length_eq_zero_iff.1 z
        obtain ⟨ad, e, _⟩ := HR0.out.2.2 z
        cases e
      have HZ := A0_ hz; clear hz
      go_enter Try.func102, Try.ntmps102
      go_wp2
      go_ret
      exact ⟨_, rfl, by rw [HZ.out]; exact Kd.R_nil _ _ _ _ _, HB.out⟩
    | some ad =>
      obtain ⟨y233, hy⟩ : ∃ y_ : List Int, y_ = ([] : List Int) := ⟨_, rfl⟩
      have Ny233 := A0_ hy; clear hy
      have Ny236 := A0_ (show l0 = y233 ++ l0 by rw [Ny233.out]; rfl)
      have LMc2 := A0_ (show y233.length + l0.length < 17592186044416 by rw [Ny233.out]; have := HL.out; simp; omega)
      go_enter Try.func102, Try.ntmps102
      go_wp2_with (first | ((with_reducible refine gD (N := 5) rfl ?_); refine Kd.R_lit (Kd.int .i64) _ 3 ?hg (N := 5) ?hd (xs := ([] : List Int)) (inner := []) (ok := fun _ => True) (okp := fun _ => True) ?hr ?hp (fun _ hk => hk) trivial (Below.refl _ _) (Nat.le_refl _) (by simp) ?_; (case hd => rfl); (case hg => rfl); (case hr => first | (go_simp; done) | (go_simp; rfl)); (case hp => exact (Reps.none _ _)); intro v234 w3 ho4 hb hg_ hnew_; clear hg_ hnew_; (first | rw [← Ny233.out] at ho4 | (simp only [Int.reduceToNat] at ho4; rw [← Ny233.out] at ho4)); have HO235 := A0_ (rL ho4 (bZ (zB_ HB))); replace HB := zB HB hb; clear hb ho4) | ((with_reducible refine gB (b := .append) (xs := #[.tmp 5, .tmp 6]) rfl ?_); at_builtin; refine Kd.R_append_rows (Kd.int .i64) (w0 := w) w.heap.size rfl (.tmp 5) (.tmp 6) 22 3 (.int .i64 0) 8 rfl Try.underlying22 info3 rfl (by decide) (by omega) v234 y233 l0 _ _ _ (fun _ => True) (fun _ => False) rfl rfl ?aO ?aR (fun _ _ h => h) (fun _ h => h.elim) ?aF ?aB ?aS ?aL ?_; (case aR => exact zC HR0 HB); (case aB => exact (zB_ HB)); (case aF => exact (fun _ _ => trivial)); (case aO => exact (zR_ HO235)); (case aS => exact (bZ (zB_ HB))); (case aL => have := LMc2.out; omega); intro v237 w5 ho hb hg hat; rw [← Ny236.out] at ho; replace HB := A0_ (hb); have HO238 := A0_ (ho); clear HO235 ho hb hg hat))
      go_ret
      exact ⟨_, rfl, zR_ HO238, (zB_ HB)⟩
  rw [if_neg hl] at h; cases h


/-! ### impl_CoverDeck: function 37 -/
theorem impl_CoverDeck.below_drewN {B : Nat} {a w : World} (h : Below B a w) (m : Nat) : Below B a (w.drewN m) := ⟨h.os, h.tape, h.output, h.size, h.block⟩
def impl_CoverDeck.t0 : Nat → List Int → List (List Int) → Int → Option Bool
  | 0, _, _, _ => none
  | k + 1, p, v, i => if i < (v.length : Int) then (if 0 ≤ i then ((impl_mul.f k p (rd_L1 v i)).bind fun a => ((impl_mul.f k (rd_L1 v i) p).bind fun b => ((slices_Equal_int_int.f k a b).bind fun e => (if e = true then (impl_CoverDeck.t0 k p v (wrap64 (i + 1))) else (some false))))) else none) else (some true)
set_option maxHeartbeats 8000000 in
set_option maxRecDepth 100000 in
theorem impl_CoverDeck.tell (k : Nat) (A : Option Addr) (c : Nat) (p : List Int) (A2 : Option Addr) (c2 : Nat) (v : List (List Int)) (gv gn : Nat) (n : Int) (b : Bool) (w : World)
    (hp : Kd.C (Kd.int .i64) w A p.length p) (hc : p.length ≤ c) (hv : Kd.C (Kd.slice 3 (Kd.int .i64)) w A2 v.length v) (hc2 : v.length ≤ c2)
    (hbv : w.heap[gv]? = some (.cells #[.slice A2 v.length c2] 25 (0, 0))) (hbn : w.heap[gn]? = some (.cells #[.int .i64 n] 3 (0, 0)))
    (h : impl_CoverDeck.t0 k p v 0 = some b) :
    Calls Try.prog 69 #[.slice A p.length c, .pointer (some ⟨gv, 0, none⟩), .pointer (some ⟨gn, 0, none⟩)] w fun e w' => (∃ x, e = .returned x) ∧ w'.heap[gn]? = some (.cells #[.int .i64 (if b = true then wrap64 (n + 1) else n)] 3 (0, 0)) ∧ Kept w w' (fun k_ => k_ = gn) ∧ Below gn w w' := by
 have HP := A0_ hp; have HC := A0_ hc; have HV := A0_ hv; have HC2 := A0_ hc2; have BKv := A0_ hbv; have BKn := A0_ hbn
 have HG := A0_ (Nat.le_of_lt (kL hbn))
 clear hp hc hv hc2 hbv hbn
 have HB := A0_ (Below.refl w.heap.size w)
 have H' := A0_ h; clear h
 have hcz0 := (kC BKv.out 0).trans rfl
 have hcz1 := (kC BKn.out 0).trans rfl
 go_enter Try.func69, Try.ntmps69
 go_wp2
 go_loopg [8] k (fun kq v8 w' => ∃ (x8 : Int), v8 = .int .i64 x8 ∧ Aside0 (impl_CoverDeck.t0 kq p v x8 = some b) ∧ Aside0 (kq ≤ k) ∧ Aside0 (w'.heap[gv]? = some (.cells #[.slice A2 v.length c2] 25 (0, 0))) ∧ Aside0 (w'.heap[gn]? = some (.cells #[.int .i64 n] 3 (0, 0))) ∧ Aside0 (Below w.heap.size w w'))
 case atStart => exact ⟨0, rfl, H', ⟨Nat.le_refl _⟩, ⟨zK_ BKv⟩, ⟨zK_ BKn⟩, ⟨by repeat (first | exact HB.out | apply bA | apply bN | apply bD)⟩⟩
 case round =>
  clear H' BKv BKn HB hcz0 hcz1; obtain ⟨x8, rfl, HA, HK1, BKv, BKn, HB⟩ := hrel
  cases gk with
  | zero => exact absurd HA.out (by simp [impl_CoverDeck.t0])
  | succ k1 =>
   have H := HA.out; clear HA; simp only [impl_CoverDeck.t0] at H
   by_cases c1 : x8 < (v.length : Int)
   · rw [if_pos c1] at H
     have c1b := eq_true c1
     have c0 : 0 ≤ x8 := Classical.byContradiction fun c_ => by rw [if_neg c_] at H; simp at H
     rw [if_pos c0] at H; obtain ⟨a, A1, H⟩ := Option.bind_eq_some_iff.mp H; obtain ⟨b1, A2_, H⟩ := Option.bind_eq_some_iff.mp H; obtain ⟨e, A3, H⟩ := Option.bind_eq_some_iff.mp H
     obtain ⟨ad, Ai, ci, ea, hx, hl, hi⟩ := at_L1 (cB HV.out HB.out) x8 c0 c1
     have HX0 := eq_true c0; clear c0
     subst ea
     cases e
     · rw [if_neg (by decide)] at H
       obtain rfl := sI H
       go_wp2_with (first | ((with_reducible refine gC (f := 71) rfl ?_); refine goesL_ (some 14) rfl rfl Try.func71 (by kernel_rfl) rfl #[.slice A p.length c, .slice Ai (rd_L1 v x8).length ci] rfl (by (try simp only [List.map_toArray, List.map_cons, List.map_nil]); first | done | rfl) ?_; refine (impl_mul.calls k1 _ _ p _ _ (rd_L1 v x8) a _ (cB HP.out HB.out) HC.out hi hl A1).mono ?_; rintro e w10 ⟨v1, rfl, ho1, hb1⟩; refine ⟨_, rfl, ?_⟩; obtain ⟨Ao1, co1, eo1⟩ := rS ho1; subst eo1; have HB1 := A0_ (bT HB.out hb1)) | ((with_reducible refine gC (f := 71) rfl ?_); refine goesL_ (some 17) rfl rfl Try.func71 (by kernel_rfl) rfl #[.slice Ai (rd_L1 v x8).length ci, .slice A p.length c] rfl (by (try simp only [List.map_toArray, List.map_cons, List.map_nil]); first | done | rfl) ?_; refine (impl_mul.calls k1 _ _ (rd_L1 v x8) _ _ p b1 _ (cB hi hb1) hl (cB HP.out HB1.out) HC.out A2_).mono ?_; rintro e w11 ⟨v2, rfl, ho2, hb2⟩; refine ⟨_, rfl, ?_⟩; obtain ⟨Ao2, co2, eo2⟩ := rS ho2; subst eo2; have HB2 := A0_ (bT HB1.out hb2)) | ((with_reducible refine gC (f := 70) rfl ?_); refine goesL_ (some 18) rfl rfl Try.func70 (by kernel_rfl) rfl #[.slice Ao1 a.length co1, .slice Ao2 b1.length co2] rfl (by (try simp only [List.map_toArray, List.map_cons, List.map_nil]); first | done | rfl) ?_; refine (slices_Equal_int_int.calls k1 _ _ a _ _ b1 false _ (rR (rB ho1 hb2)).2.2 (rR ho1).2.1 (rR ho2).2.2 (rR ho2).2.1 A3).mono ?_; rintro e w12 ⟨rfl, ⟨nd, rfl⟩⟩; refine ⟨_, rfl, ?_⟩))
       refine bodyPost_ret (results_none rfl _ _ _) rfl ?_
       exact ⟨⟨_, rfl⟩, by simpa using (kN (kB (kB BKn.out hb1) hb2) nd), Kept.of_below HB2.out _, (impl_CoverDeck.below_drewN HB2.out nd).mono HG.out⟩
     rw [if_pos rfl] at H
     go_wp2_with (first | ((with_reducible refine gC (f := 71) rfl ?_); refine goesL_ (some 14) rfl rfl Try.func71 (by kernel_rfl) rfl #[.slice A p.length c, .slice Ai (rd_L1 v x8).length ci] rfl (by (try simp only [List.map_toArray, List.map_cons, List.map_nil]); first | done | rfl) ?_; refine (impl_mul.calls k1 _ _ p _ _ (rd_L1 v x8) a _ (cB HP.out HB.out) HC.out hi hl A1).mono ?_; rintro e w10 ⟨v1, rfl, ho1, hb1⟩; refine ⟨_, rfl, ?_⟩; obtain ⟨Ao1, co1, eo1⟩ := rS ho1; subst eo1; have HB1 := A0_ (bT HB.out hb1)) | ((with_reducible refine gC (f := 71) rfl ?_); refine goesL_ (some 17) rfl rfl Try.func71 (by kernel_rfl) rfl #[.slice Ai (rd_L1 v x8).length ci, .slice A p.length c] rfl (by (try simp only [List.map_toArray, List.map_cons, List.map_nil]); first | done | rfl) ?_; refine (impl_mul.calls k1 _ _ (rd_L1 v x8) _ _ p b1 _ (cB hi hb1) hl (cB HP.out HB1.out) HC.out A2_).mono ?_; rintro e w11 ⟨v2, rfl, ho2, hb2⟩; refine ⟨_, rfl, ?_⟩; obtain ⟨Ao2, co2, eo2⟩ := rS ho2; subst eo2; have HB2 := A0_ (bT HB1.out hb2)) | ((with_reducible refine gC (f := 70) rfl ?_); refine goesL_ (some 18) rfl rfl Try.func70 (by kernel_rfl) rfl #[.slice Ao1 a.length co1, .slice Ao2 b1.length co2] rfl (by (try simp only [List.map_toArray, List.map_cons, List.map_nil]); first | done | rfl) ?_; refine (slices_Equal_int_int.calls k1 _ _ a _ _ b1 true _ (rR (rB ho1 hb2)).2.2 (rR ho1).2.1 (rR ho2).2.2 (rR ho2).2.1 A3).mono ?_; rintro e w12 ⟨rfl, ⟨nd, rfl⟩⟩; refine ⟨_, rfl, ?_⟩))
     have BKv2 := A0_ (kB (kB BKv.out hb1) hb2); have BKn2 := A0_ (kB (kB BKn.out hb1) hb2)
     go_roundg k1
     case measure => have := HK1.out; omega
     case rel => exact ⟨wrap64 (x8 + 1), rfl, ⟨H⟩, ⟨by have := HK1.out; omega⟩, ⟨kN BKv2.out nd⟩, ⟨kN BKn2.out nd⟩, ⟨bN HB2.out nd⟩⟩
   rw [if_neg c1] at H; have c1b := eq_false c1; obtain rfl := sI H
   have hczn : wr.cell? ⟨gn, 0, none⟩ = some (.int .i64 n) := (kC BKn.out 0).trans rfl
   have hfzn := kF BKn.out 0
   go_wp2
   go_end0
   exact ⟨⟨_, rfl⟩, by simpa using blk_put BKn.out 0 (.int .i64 (wrap64 (n + 1))) rfl, (Kept.of_below HB.out (fun k_ => k_ = gn)).setCell (.inl rfl) _, (HB.out.mono HG.out).setCell (Nat.le_refl _) _⟩
def impl_CoverDeck.g0 : Nat → List (List Int) → Int → List Int → Int → Int → Option Int
  | 0, _, _, _, _, _ => none
  | k + 1, v, n, p, i, c => if i < n then ((slices_Contains_int_int.f k p i).bind fun t => (if t = true then (impl_CoverDeck.g0 k v n p (wrap64 (i + 1)) c) else ((slices_Clone_int_int.f p).bind fun q => (if q.length ≤ 1048576 then ((if ((q ++ [i]).length : Int) = n then ((impl_CoverDeck.t0 k (q ++ [i]) v 0).bind fun b => (some (if b = true then wrap64 (c + 1) else c))) else (impl_CoverDeck.g0 k v n (q ++ [i]) 0 c)).bind fun c' => (impl_CoverDeck.g0 k v n p (wrap64 (i + 1)) c')) else none)))) else (some c)
def impl_CoverDeck.y0 (k : Nat) (v : List (List Int)) (n : Int) (p : List Int) (c : Int) : Option Int := if (p.length : Int) = n then ((impl_CoverDeck.t0 k p v 0).bind fun b => (some (if b = true then wrap64 (c + 1) else c))) else (impl_CoverDeck.g0 k v n p 0 c)
set_option maxHeartbeats 8000000 in
set_option maxRecDepth 100000 in
theorem impl_CoverDeck.try_ (gv gn gN gT gY : Nat) (A2 : Option Addr) (c2 : Nat) (v : List (List Int)) (n : Int) (h1 : gv ≠ gn) (h2 : gN ≠ gn) (h3 : gT ≠ gn) (h4 : gY ≠ gn) (hc2 : v.length ≤ c2) : ∀ (k : Nat) (A : Option Addr) (c : Nat) (p : List Int) (cnt r : Int) (w : World)
    (hp : ∀ W', Kept w W' (fun k_ => k_ = gn) → Kd.C (Kd.int .i64) W' A p.length p) (hc : p.length ≤ c) (hv : ∀ W', Kept w W' (fun k_ => k_ = gn) → Kd.C (Kd.slice 3 (Kd.int .i64)) W' A2 v.length v)
    (hbv : w.heap[gv]? = some (.cells #[.slice A2 v.length c2] 25 (0, 0))) (hbn : w.heap[gn]? = some (.cells #[.int .i64 cnt] 3 (0, 0))) (hbN : w.heap[gN]? = some (.cells #[.int .i64 n] 3 (0, 0)))
    (hbT : w.heap[gT]? = some (.cells #[.func (.func 69) #[] #[.pointer (some ⟨gv, 0, none⟩), .pointer (some ⟨gn, 0, none⟩)]] 65 (0, 0)))
    (hbY : w.heap[gY]? = some (.cells #[.func (.func 100) #[] #[.pointer (some ⟨gN, 0, none⟩), .pointer (some ⟨gT, 0, none⟩), .pointer (some ⟨gY, 0, none⟩)]] 65 (0, 0)))
    (h : impl_CoverDeck.y0 k v n p cnt = some r),
    Calls Try.prog 100 #[.slice A p.length c, .pointer (some ⟨gN, 0, none⟩), .pointer (some ⟨gT, 0, none⟩), .pointer (some ⟨gY, 0, none⟩)] w fun e w' => (∃ x, e = .returned x) ∧ w'.heap[gn]? = some (.cells #[.int .i64 r] 3 (0, 0)) ∧ Kept w w' (fun k_ => k_ = gn) ∧ Below gn w w' := by
 intro k
 induction k using Nat.strongRecOn with
 | ind k ih =>
 intro A c p cnt r w hp hc hv hbv hbn hbN hbT hbY h
 have HP := A0_ hp; have HC := A0_ hc; have HV := A0_ hv; have BKv := A0_ hbv; have BKn := A0_ hbn; have BKN := A0_ hbN; have BKT := A0_ hbT; have BKY := A0_ hbY; have IH := A0_ ih
 clear hp hc hv hbv hbn hbN hbT hbY ih
 have HK := A0_ (Kept.refl w (fun k_ => k_ = gn))
 have HGN := A0_ (kL BKn.out)
 have HU := A0_ (Below.refl gn w)
 have hczN : w.cell? ⟨gN, 0, none⟩ = some (.int .i64 n) := (kC BKN.out 0).trans rfl
 have hczT : w.cell? ⟨gT, 0, none⟩ = some (.func (.func 69) #[] #[.pointer (some ⟨gv, 0, none⟩), .pointer (some ⟨gn, 0, none⟩)]) := (kC BKT.out 0).trans rfl
 unfold impl_CoverDeck.y0 at h
 by_cases c1 : (p.length : Int) = n
 · rw [if_pos c1] at h
   have c1b : ((p.length : Int) == n) = true := beq_iff_eq.mpr c1
   obtain ⟨b, A1, h⟩ := Option.bind_eq_some_iff.mp h; have h := sI h
   go_enter Try.func100, Try.ntmps100
   go_wp2_with (first | (go_at_call 69; refine (impl_CoverDeck.tell k A c p A2 c2 v gv gn cnt b _ (HP.out _ HK.out) HC.out (HV.out _ HK.out) hc2 BKv.out BKn.out A1).mono ?_; rintro e w1 ⟨⟨x, rfl⟩, hn, hk, hu⟩))
   refine bodyPost_ret (results_none rfl _ _ _) rfl ?_
   rw [h] at hn
   exact ⟨⟨_, rfl⟩, hn, hk, hu⟩
 rw [if_neg c1] at h
 have c1b : ((p.length : Int) == n) = false := beq_eq_false_iff_ne.mpr c1
 have H' := A0_ h; clear h
 go_enter Try.func100, Try.ntmps100
 go_wp2
 go_loopg [14] k (fun kq v14 w' => ∃ (x14 : Int) (cn : Int), v14 = .int .i64 x14 ∧ Aside0 (impl_CoverDeck.g0 kq v n p x14 cn = some r) ∧ Aside0 (kq ≤ k) ∧ Aside0 (w'.heap[gn]? = some (.cells #[.int .i64 cn] 3 (0, 0))) ∧ Aside0 (Kept w w' (fun k_ => k_ = gn)) ∧ Aside0 (Below gn w w'))
 case atStart => exact ⟨0, cnt, rfl, H', ⟨Nat.le_refl _⟩, ⟨zK_ BKn⟩, ⟨HK.out⟩, ⟨HU.out⟩⟩
 case round =>
  clear H' BKn HK HU hczN hczT; obtain ⟨x14, cn, rfl, HA, HKL, BKn, HK, HU⟩ := hrel
  cases gk with
  | zero => exact absurd HA.out (by simp [impl_CoverDeck.g0])
  | succ k1 =>
   have H := HA.out; clear HA; simp only [impl_CoverDeck.g0] at H
   by_cases c2 : x14 < n
   · rw [if_pos c2] at H
     have c2b := eq_true c2; obtain ⟨t, A1, H⟩ := Option.bind_eq_some_iff.mp H
     cases t
     · rw [if_neg (by decide)] at H
       obtain ⟨q, A2_, H⟩ := Option.bind_eq_some_iff.mp H
       by_cases c3 : q.length ≤ 1048576
       · rw [if_pos c3] at H
         obtain ⟨c', A3, H⟩ := Option.bind_eq_some_iff.mp H
         go_wp2_with (first | (go_at_call 101; refine (slices_Contains_int_int.calls k1 A c p x14 false _ (HP.out _ HK.out) HC.out A1).mono ?_; rintro e w' ⟨rfl, ⟨nd, rfl⟩⟩))
         have hgn := HGN.out
         have hq : q = p ∧ p.length ≤ 1048576 := by
           unfold slices_Clone_int_int.f at A2_
           by_cases hl : p.length ≤ 1048576
           · rw [if_pos hl] at A2_; exact ⟨(sI A2_).symm, hl⟩
           rw [if_neg hl] at A2_; simp at A2_
         obtain ⟨rfl, hpl⟩ := hq
         have HK0 : Kept w (wr.drewN nd).drew (fun k_ => k_ = gn) := HK.out.drewN nd
         have HU0 : Below gn w (wr.drewN nd).drew := (impl_CoverDeck.below_drewN HU.out nd).drew
         have BKn0 : ((wr.drewN nd).drew).heap[gn]? = some (.cells #[.int .i64 cn] 3 (0, 0)) := BKn.out
         refine start_ (n := 7) (S := fun w' => (w'.cell? ⟨gY, 0, none⟩ = some (.func (.func 100) #[] #[.pointer (some ⟨gN, 0, none⟩), .pointer (some ⟨gT, 0, none⟩), .pointer (some ⟨gY, 0, none⟩)]))) (ds := []) #[false,false,false,false,false,false,false] (by kernel_rfl) rfl rfl ((kC (blk_kept BKY.out HK0 h4) 0).trans rfl) (fun hHeld => ?_)
         generalize (wr.drewN nd).drew = w3 at HK0 HU0 BKn0 hHeld ⊢
         refine zP 1 (some 22) #[false,true,false,false,false,false,false] ?_ (hc := by kernel_rfl)
         refine zP 3 (some 24) #[false,true,false,true,false,false,false] ?_ (hc := by kernel_rfl)
         refine take_ (i := 0) (N := some 21) (v := ?_) (a' := ?_) #[true,true,false,true,false,false,false] rfl rfl (by kernel_rfl) (fun _ _ _ h => h) (Or.inl ⟨by rfl, ?_⟩) hHeld ?_ ?_
         rotate_left
         · intro w' s0
           go_simp
           with_reducible rfl
         rotate_left
         · simp only [Act.put, List.setIfInBounds_toArray, List.set_cons_zero, List.set_cons_succ, i64_w, i32_w]
           rfl
         refine join_ (σ := Value × Value) 2 #[true,true,true,true,true,false,false] (fun s_ => [(23, s_.1), (25, s_.2)]) (fun s_ w' => (w'.cell? ⟨gY, 0, none⟩ = some (.func (.func 100) #[] #[.pointer (some ⟨gN, 0, none⟩), .pointer (some ⟨gT, 0, none⟩), .pointer (some ⟨gY, 0, none⟩)])) ∧ Kept w w' (fun k_ => k_ = gn) ∧ Below gn w w' ∧ w'.heap[gn]? = some (.cells #[.int .i64 cn] 3 (0, 0)) ∧ Kd.R (Kd.int .i64) 3 w' w.heap.size (fun _ => True) s_.1 q ∧ Kd.R (Kd.int .i64) 3 w' w.heap.size (fun _ => True) s_.2 [x14]) ?_ ?_
         · rintro ⟨v23, v25⟩ w8 ⟨hHeld, HK8, HU8, BKn8, HOa, HOb⟩
           dsimp only at HOa HOb
           obtain ⟨Aa, ca, ea⟩ := rS HOa; subst ea
           obtain ⟨Ab, cb, eb⟩ := rS HOb; subst eb
           refine norm_ (a' := ?_) ?_ ?_
           rotate_left
           · simp only [putAll, Act.put, List.setIfInBounds_toArray, List.set_cons_zero, List.set_cons_succ]
             rfl
           refine one_ (i := 5) (N := some 26) #[true,true,true,true,true,true,false] rfl rfl (by kernel_rfl) (by decide) (fun K hK => ?_)
           refine Kd.R_append_rows_step (Kd.int .i64) (w0 := w8) w.heap.size (by rfl) (.tmp 23) (.tmp 25) 22 3 (.int .i64 0) 8 rfl Try.underlying22 info3 rfl (by decide) (by omega) (.slice Aa q.length ca) q [x14] _ _ _ (fun _ => True) (fun _ => False) rfl rfl HOa (rR HOb).2.2 (fun _ _ h => h) (fun _ h => h.elim) (fun _ _ => trivial) (Below.refl _ _) HK8.1 (by simp; omega) ?_
           intro v26 w9 ho hb hg hat
           have hna : some gn ≠ (Value.slice Aa q.length ca).ownBlock := fun e_ => by have := ((Kd.R_bound HOa).1 gn e_.symm).2.1; omega
           have HK9 := Kept.of_grown hg HK8 (fun k_ e_ => .inr ((Kd.R_bound HOa).1 k_ e_).2.1)
           have BKn9 := blk_grown BKn8 hg hna
           have HU9 := Below.grown HU8 hg (by have := HK8.1; omega) (fun k_ e_ => by have := ((Kd.R_bound HOa).1 k_ e_).2.1; omega)
           obtain ⟨Ac, cc, ec⟩ := rS ho; subst ec
           refine hK.out _ _ ((kC (blk_kept BKY.out HK9 h4) 0).trans rfl) (fun hHeld => ?_)
           clear hK K
           refine norm_ (a' := ?_) ?_ ?_
           rotate_left
           · show Act.put _ (some 26) _ = _
             simp only [Act.put, List.setIfInBounds_toArray, List.set_cons_zero, List.set_cons_succ, i64_w, i32_w]
             rfl
           refine one_ (i := 6) (N := some 27) #[true,true,true,true,true,true,true] rfl rfl (by kernel_rfl) (by decide) (fun K hK => ?_)
           have A3' : impl_CoverDeck.y0 k1 v n (q ++ [x14]) cn = some c' := A3
           refine call_ 100 #[.slice Ac (q ++ [x14]).length cc, .pointer (some ⟨gN, 0, none⟩), .pointer (some ⟨gT, 0, none⟩), .pointer (some ⟨gY, 0, none⟩)] (by rfl) rfl ?_ ?_
           · first | rfl | (go_simp; done) | (go_simp; rfl)
           refine (IH.out k1 (by have := HKL.out; omega) Ac cc (q ++ [x14]) cn c' w9 (Kd.C_kept_own (Kd.R_bound ho) (fun k_ hk_ e_ => by have := hk_.2.1; omega)) (rR ho).2.1 (Kd.C_kept_step HV.out HK9) (blk_kept BKv.out HK9 h1) BKn9 (blk_kept BKN.out HK9 h2) (blk_kept BKT.out HK9 h3) (blk_kept BKY.out HK9 h4) A3').mono ?_
           rintro e w10 ⟨⟨v27, rfl⟩, hn, hk, hu⟩
           refine ⟨_, rfl, ?_⟩
           have HK10 := HK9.then_ hk (fun _ h => .inl h)
           refine hK.out _ _ ((kC (blk_kept BKY.out HK10 h4) 0).trans rfl) (fun hHeld => ?_)
           clear hK K
           refine done_ (by kernel_rfl) ?_
           try go_wp2
           go_roundg k1
           case measure => have := HKL.out; omega
           case rel => exact ⟨wrap64 (x14 + 1), c', rfl, ⟨H⟩, ⟨by have := HKL.out; omega⟩, ⟨hn⟩, ⟨HK10⟩, ⟨HU9.trans hu⟩⟩
         intro hJ
         refine two_ (i := 2) (j := 4) (Ni := some 23) (Nj := some 25) #[true,true,true,true,false,false,false] #[true,true,false,true,true,false,false] rfl rfl rfl rfl (by kernel_rfl) (by decide) (by decide) (fun K hK => ?_) (fun K hK => ?_)
         · refine goes_ Try.func102 (by kernel_rfl) rfl #[.slice A q.length c] (by rfl) rfl rfl (by (try simp only [List.map_toArray, List.map_cons, List.map_nil]); first | done | rfl) ?_
           refine (slices_Clone_int_int.calls A c q q _ (HP.out _ HK0) HC.out A2_).mono ?_
           rintro e w4 ⟨v23, rfl, ho1, hb1⟩
           refine ⟨_, rfl, ?_⟩
           have HK1 := HK0.below hb1; have HU1 := HU0.trans (hb1.mono (by have := HK0.1; omega))
           have BKn1 := kB BKn0 hb1
           have HOa := rL ho1 HK0.1
           refine hK.out _ _ ((kC (blk_kept BKY.out HK1 h4) 0).trans rfl) (fun hHeld => ?_)
           clear hK K
           refine norm_ (a' := ?_) ?_ ?_
           rotate_left
           · show Act.put _ (some 23) _ = _
             simp only [Act.put, List.setIfInBounds_toArray, List.set_cons_zero, List.set_cons_succ, i64_w, i32_w]
             rfl
           refine one_ (i := 4) (N := some 25) #[true,true,true,true,true,false,false] rfl rfl (by kernel_rfl) (by decide) (fun K hK => ?_)
           refine Kd.R_lit_step (Kd.int .i64) _ 3 ?hg (N := 25) ?hd (xs := ([x14] : List Int)) (inner := [.int .i64 x14]) (ok := fun _ => True) (okp := fun _ => True) ?hr ?hp (fun _ hk => hk) trivial (Below.refl _ _) (Nat.le_refl _) (by simp) ?_; (case hd => rfl); (case hg => rfl); (case hr => first | (go_simp; done) | (go_simp; rfl)); (case hp => exact (Reps.one (show Kd.M (Kd.int .i64) _ _ _ x14 [.int .i64 x14] from rfl) (Reps.none _ _)))
           intro v25 w5 ho2 hb2 hg_ hnew_
           clear hg_ hnew_
           have HK2 := HK1.below hb2; have HU2 := HU1.trans (hb2.mono (by have := HK1.1; omega))
           have BKn2 := kB BKn1 hb2
           have HOb := rL ho2 HK1.1
           refine hK.out _ _ ((kC (blk_kept BKY.out HK2 h4) 0).trans rfl) (fun hHeld => ?_)
           clear hK K
           refine norm_ (a' := ?_) ?_ ?_
           rotate_left
           · show Act.put _ (some 25) _ = _
             simp only [Act.put, List.setIfInBounds_toArray, List.set_cons_zero, List.set_cons_succ, i64_w, i32_w]
             rfl
           exact norm_ zA (hJ (v23, v25) _ ⟨hHeld, HK2, HU2, BKn2, rB HOa hb2, HOb⟩)
         refine Kd.R_lit_step (Kd.int .i64) _ 3 ?hg (N := 25) ?hd (xs := ([x14] : List Int)) (inner := [.int .i64 x14]) (ok := fun _ => True) (okp := fun _ => True) ?hr ?hp (fun _ hk => hk) trivial (Below.refl _ _) (Nat.le_refl _) (by simp) ?_; (case hd => rfl); (case hg => rfl); (case hr => first | (go_simp; done) | (go_simp; rfl)); (case hp => exact (Reps.one (show Kd.M (Kd.int .i64) _ _ _ x14 [.int .i64 x14] from rfl) (Reps.none _ _)))
         intro v25 w4 ho1 hb1 hg_ hnew_
         clear hg_ hnew_
         have HK1 := HK0.below hb1; have HU1 := HU0.trans (hb1.mono (by have := HK0.1; omega))
         have BKn1 := kB BKn0 hb1
         have HOb := rL ho1 HK0.1
         refine hK.out _ _ ((kC (blk_kept BKY.out HK1 h4) 0).trans rfl) (fun hHeld => ?_)
         clear hK K
         refine norm_ (a' := ?_) ?_ ?_
         rotate_left
         · show Act.put _ (some 25) _ = _
           simp only [Act.put, List.setIfInBounds_toArray, List.set_cons_zero, List.set_cons_succ, i64_w, i32_w]
           rfl
         refine one_ (i := 2) (N := some 23) #[true,true,true,true,true,false,false] rfl rfl (by kernel_rfl) (by decide) (fun K hK => ?_)
         refine goes_ Try.func102 (by kernel_rfl) rfl #[.slice A q.length c] (by rfl) rfl rfl (by (try simp only [List.map_toArray, List.map_cons, List.map_nil]); first | done | rfl) ?_
         refine (slices_Clone_int_int.calls A c q q _ (HP.out _ HK1) HC.out A2_).mono ?_
         rintro e w5 ⟨v23, rfl, ho2, hb2⟩
         refine ⟨_, rfl, ?_⟩
         have HK2 := HK1.below hb2; have HU2 := HU1.trans (hb2.mono (by have := HK1.1; omega))
         have BKn2 := kB BKn1 hb2
         have HOa := rL ho2 HK1.1
         refine hK.out _ _ ((kC (blk_kept BKY.out HK2 h4) 0).trans rfl) (fun hHeld => ?_)
         clear hK K
         refine norm_ (a' := ?_) ?_ ?_
         rotate_left
         · show Act.put _ (some 23) _ = _
           simp only [Act.put, List.setIfInBounds_toArray, List.set_cons_zero, List.set_cons_succ, i64_w, i32_w]
           rfl
         exact norm_ zA (hJ (v23, v25) _ ⟨hHeld, HK2, HU2, BKn2, HOa, rB HOb hb2⟩)
       rw [if_neg c3] at H; simp at H
     rw [if_pos rfl] at H
     go_wp2_with (first | (go_at_call 101; refine (slices_Contains_int_int.calls k1 A c p x14 true _ (HP.out _ HK.out) HC.out A1).mono ?_; rintro e w' ⟨rfl, ⟨nd, rfl⟩⟩))
     go_roundg k1
     case measure => have := HKL.out; omega
     case rel => exact ⟨wrap64 (x14 + 1), cn, rfl, ⟨H⟩, ⟨by have := HKL.out; omega⟩, ⟨kN BKn.out nd⟩, ⟨HK.out.drewN nd⟩, ⟨impl_CoverDeck.below_drewN HU.out nd⟩⟩
   rw [if_neg c2] at H; have c2b := eq_false c2; obtain rfl := sI H
   go_wp2
   go_end0
   exact ⟨⟨_, rfl⟩, BKn.out, HK.out, HU.out⟩
theorem impl_CoverDeck.store_func {P : Program} {w : World} {a : Addr} {m : Mode} (fn : Fn) (x y : Array Value) : (store a (.func fn x y) m).run P w = stored P w a (.func fn x y) m := run_store P w a _ m rfl
attribute [local go_sem] impl_CoverDeck.store_func
set_option maxHeartbeats 8000000 in
set_option maxRecDepth 100000 in
theorem impl_CoverDeck.perms (gv gn : Nat) (A2 : Option Addr) (c2 : Nat) (v : List (List Int)) (n : Int) (h1 : gv ≠ gn) (hc2 : v.length ≤ c2) (k : Nat) (cnt r : Int) (w : World)
    (hv : ∀ W', Kept w W' (fun k_ => k_ = gn) → Kd.C (Kd.slice 3 (Kd.int .i64)) W' A2 v.length v)
    (hbv : w.heap[gv]? = some (.cells #[.slice A2 v.length c2] 25 (0, 0))) (hbn : w.heap[gn]? = some (.cells #[.int .i64 cnt] 3 (0, 0)))
    (h : impl_CoverDeck.y0 k v n [] cnt = some r) :
    Calls Try.prog 68 #[.int .i64 n, .func (.func 69) #[] #[.pointer (some ⟨gv, 0, none⟩), .pointer (some ⟨gn, 0, none⟩)]] w fun e w' => (∃ x, e = .returned x) ∧ w'.heap[gn]? = some (.cells #[.int .i64 r] 3 (0, 0)) ∧ Kept w w' (fun k_ => k_ = gn) ∧ Below gn w w' := by
 have HV := A0_ hv; have BKv := A0_ hbv; have BKn := A0_ hbn
 clear hv hbv hbn
 have HK := A0_ (Kept.refl w (fun k_ => k_ = gn))
 have HGN := A0_ (kL BKn.out)
 have hmf : ∀ (fn : Fn) (first cap : Array Value) (w : World), (Instr.makeFunc fn first cap).run Try.prog w = .ok (.func fn first cap) w := fun _ _ _ _ => rfl
 go_enter Try.func68, Try.ntmps68
 go_wp2_with (first | ((with_reducible refine gD (N := 2) rfl ?_); refine zX (N := 2) (cs := #[.int .i64 n]) (t := 3) ?_; intro gN hgN w1 bN b1; have NN : gN ≠ gn := (by have := HGN.out; omega); have K1 := HK.out.below b1; have LN := kL bN; clear hgN) | ((with_reducible refine gD (N := 3) rfl ?_); refine zX (N := 3) (cs := #[(.func (.func 69) #[] #[.pointer (some ⟨gv, 0, none⟩), .pointer (some ⟨gn, 0, none⟩)])]) (t := 65) ?_; intro gT hgT w2 bT b2; have NT : gT ≠ gn := (by have := HGN.out; have := K1.1; omega); have K2 := K1.below b2; have bN2 := kB bN b2; clear hgT) | ((with_reducible refine gD (N := 4) rfl ?_); refine zX (N := 4) (cs := #[.nilFunc]) (t := 65) ?_; intro gY hgY w3 bY b3; have NY : gY ≠ gn := (by have := HGN.out; have := K2.1; omega); have NYN : gN ≠ gY := (by have := kL bN2; omega); have NYT : gT ≠ gY := (by have := kL bT; omega); have NYv : gv ≠ gY := (by have := kL BKv.out; have := K2.1; omega); have K3 := K2.below b3; have bN3 := kB bN2 b3; have bT3 := kB bT b3; have hczY : w3.cell? ⟨gY, 0, none⟩ = some .nilFunc := (kC bY 0).trans rfl; have hfzY := kF bY 0; have LY : w.heap.size ≤ gY := (by have := K2.1; omega); clear hgY) | ((with_reducible refine gS (t := 65) (p := 4) rfl ?_); refine store_event (t := 65) (p := 4) (v := ?vo) (w1 := w3.setCell ⟨gY, 0, none⟩ (.func (.func 100) #[] #[.pointer (some ⟨gN, 0, none⟩), .pointer (some ⟨gT, 0, none⟩), .pointer (some ⟨gY, 0, none⟩)])) ?hg ?ho ?hn ?hr ?_; (case ho => rfl); (case hg => rfl); (case hn => rfl); (case hr => first | (go_simp; done) | (go_simp; rfl)); intro w4 hw; have bY4 : w4.heap[gY]? = some (.cells #[(.func (.func 100) #[] #[.pointer (some ⟨gN, 0, none⟩), .pointer (some ⟨gT, 0, none⟩), .pointer (some ⟨gY, 0, none⟩)])] 65 (0, 0)) := (by rw [hw]; exact blk_put bY 0 _ rfl); have bN4 : w4.heap[gN]? = some (.cells #[.int .i64 n] 3 (0, 0)) := (by rw [hw]; exact blk_far bN3 NYN _); have bT4 : w4.heap[gT]? = some (.cells #[(.func (.func 69) #[] #[.pointer (some ⟨gv, 0, none⟩), .pointer (some ⟨gn, 0, none⟩)])] 65 (0, 0)) := (by rw [hw]; exact blk_far bT3 NYT _); have K4 : Kept w w4 (fun k_ => k_ = gn) := (by rw [hw]; exact K3.setCell (.inr LY) _); have U4 : Below gn w w4 := (by rw [hw]; refine Below.setCell (((b1.mono (by have := HGN.out; omega)).trans (b2.mono (by have := HGN.out; have := K1.1; omega))).trans (b3.mono (by have := HGN.out; have := K2.1; omega))) (show gn ≤ gY by have := HGN.out; omega) _); have bn4 : w4.heap[gn]? = some (.cells #[.int .i64 cnt] 3 (0, 0)) := (by rw [hw]; exact blk_far (kB (kB (kB BKn.out b1) b2) b3) NY.symm _); clear hw hczY hfzY; have hcz4 : w4.cell? ⟨gY, 0, none⟩ = some (.func (.func 100) #[] #[.pointer (some ⟨gN, 0, none⟩), .pointer (some ⟨gT, 0, none⟩), .pointer (some ⟨gY, 0, none⟩)]) := (kC bY4 0).trans rfl) | (go_at_call 100; refine (impl_CoverDeck.try_ gv gn gN gT gY A2 c2 v n h1 NN NT NY hc2 k none 0 [] cnt r w4 (Kd.C_kept_nil) (Nat.le_refl _) (Kd.C_kept_step HV.out K4) (blk_kept BKv.out K4 h1) bn4 bN4 bT4 bY4 h).mono ?_; rintro e w5 ⟨⟨x, rfl⟩, hn, hk, hu⟩))
 go_end0
 exact ⟨⟨_, rfl⟩, hn, K4.then_ hk (fun _ h => .inl h), U4.trans hu⟩
def impl_CoverDeck.f (k : Nat) (l0_0 : List Int) (l0_1 : List Int) (a1 : Int) (l2 : List (List Int)) : Option (Int) := (impl_VoltageValid.f k l0_0 l0_1 a1 l2).bind fun t => (if t = true then (if a1 > 4 then (some (-1)) else (impl_CoverDeck.y0 k l2 a1 [] 0)) else (some (-1)))
set_option maxHeartbeats 8000000 in
set_option maxRecDepth 100000 in
theorem impl_CoverDeck.calls (k : Nat) (A0_0 : Option Addr) (c0_0 : Nat) (l0_0 : List Int) (A0_1 : Option Addr) (c0_1 : Nat) (l0_1 : List Int) (a1 : Int) (A2 : Option Addr) (c2 : Nat) (l2 : List (List Int)) (r : Int) (w : World) (hr0_0 : Kd.C (Kd.int .i64) w A0_0 l0_0.length l0_0) (hc0_0 : l0_0.length ≤ c0_0) (hr0_1 : Kd.C (Kd.int .i64) w A0_1 l0_1.length l0_1) (hc0_1 : l0_1.length ≤ c0_1) (hr2 : Kd.C (Kd.slice 3 (Kd.int .i64)) w A2 l2.length l2) (hc2 : l2.length ≤ c2) (h : impl_CoverDeck.f k l0_0 l0_1 a1 l2 = some r) :
    Calls Try.prog 37 #[.agg #[.slice A0_0 l0_0.length c0_0, .slice A0_1 l0_1.length c0_1], .int .i64 a1, .slice A2 l2.length c2] w fun e w' => e = .returned (.int .i64 r) ∧ Below w.heap.size w w' := by
 have hu29 := Try.underlying29; have HR0_0 := A0_ hr0_0; have HC0_0 := A0_ hc0_0; clear hr0_0 hc0_0; have HR0_1 := A0_ hr0_1; have HC0_1 := A0_ hc0_1; clear hr0_1 hc0_1; have HR2 := A0_ hr2; have HC2 := A0_ hc2; clear hr2 hc2
 have HB := A0_ (Below.refl w.heap.size w)
 have hmf : ∀ (fn : Fn) (first cap : Array Value) (w : World), (Instr.makeFunc fn first cap).run Try.prog w = .ok (.func fn first cap) w := fun _ _ _ _ => rfl
 unfold impl_CoverDeck.f at h
 obtain ⟨t, A1, H⟩ := Option.bind_eq_some_iff.mp h; clear h
 cases t
 · rw [if_neg (by decide)] at H; obtain rfl := sI H
   go_enter Try.func37, Try.ntmps37
   go_wp2_with (first | ((with_reducible refine gD (N := 3) rfl ?_); refine zX (N := 3) (cs := #[.slice A0_0 l0_0.length c0_0, .slice A0_1 l0_1.length c0_1]) (t := 29) ?_; intro gm hgm w1 bm b1; have HB1 := bT HB.out b1; clear hgm) | ((with_reducible refine gD (N := 5) rfl ?_); refine zX (N := 5) (cs := #[.slice A2 l2.length c2]) (t := 25) ?_; intro gv hgv w2 bv b2; have bm2 := kB bm b2; have HB2 := bT HB1 b2; have GV : w.heap.size ≤ gv := (by have := HB1.size; omega); clear hgv; have hm0 : w2.cell? ⟨gm, 0, none⟩ = some (.slice A0_0 l0_0.length c0_0) := (kC bm2 0).trans rfl; have hm1 : w2.cell? ⟨gm, 1, none⟩ = some (.slice A0_1 l0_1.length c0_1) := (kC bm2 1).trans rfl; have hv0 : w2.cell? ⟨gv, 0, none⟩ = some (.slice A2 l2.length c2) := (kC bv 0).trans rfl) | (go_at_call 20; refine (impl_VoltageValid.calls k A0_0 c0_0 l0_0 A0_1 c0_1 l0_1 a1 A2 c2 l2 false w2 (cB HR0_0.out HB2) HC0_0.out (cB HR0_1.out HB2) HC0_1.out (cB HR2.out HB2) HC2.out A1).mono ?_; rintro e w3 ⟨rfl, b3⟩; have HB3 := bT HB2 b3; have bv3 := kB bv b3))
   go_ret
   exact ⟨by first | rfl | (simp [*] <;> rfl), by repeat (first | exact HB3 | apply bA | apply bN | apply bD)⟩
 rw [if_pos rfl] at H
 by_cases c4 : a1 > 4
 · rw [if_pos c4] at H; obtain rfl := sI H
   have c4b : decide (4 < a1) = true := dT c4
   go_enter Try.func37, Try.ntmps37
   go_wp2_with (first | ((with_reducible refine gD (N := 3) rfl ?_); refine zX (N := 3) (cs := #[.slice A0_0 l0_0.length c0_0, .slice A0_1 l0_1.length c0_1]) (t := 29) ?_; intro gm hgm w1 bm b1; have HB1 := bT HB.out b1; clear hgm) | ((with_reducible refine gD (N := 5) rfl ?_); refine zX (N := 5) (cs := #[.slice A2 l2.length c2]) (t := 25) ?_; intro gv hgv w2 bv b2; have bm2 := kB bm b2; have HB2 := bT HB1 b2; have GV : w.heap.size ≤ gv := (by have := HB1.size; omega); clear hgv; have hm0 : w2.cell? ⟨gm, 0, none⟩ = some (.slice A0_0 l0_0.length c0_0) := (kC bm2 0).trans rfl; have hm1 : w2.cell? ⟨gm, 1, none⟩ = some (.slice A0_1 l0_1.length c0_1) := (kC bm2 1).trans rfl; have hv0 : w2.cell? ⟨gv, 0, none⟩ = some (.slice A2 l2.length c2) := (kC bv 0).trans rfl) | (go_at_call 20; refine (impl_VoltageValid.calls k A0_0 c0_0 l0_0 A0_1 c0_1 l0_1 a1 A2 c2 l2 true w2 (cB HR0_0.out HB2) HC0_0.out (cB HR0_1.out HB2) HC0_1.out (cB HR2.out HB2) HC2.out A1).mono ?_; rintro e w3 ⟨rfl, b3⟩; have HB3 := bT HB2 b3; have bv3 := kB bv b3))
   go_ret
   exact ⟨by first | rfl | (simp [*] <;> rfl), by repeat (first | exact HB3 | apply bA | apply bN | apply bD)⟩
 rw [if_neg c4] at H
 have c4b : decide (4 < a1) = false := dF c4
 go_enter Try.func37, Try.ntmps37
 go_wp2_with (first | ((with_reducible refine gD (N := 3) rfl ?_); refine zX (N := 3) (cs := #[.slice A0_0 l0_0.length c0_0, .slice A0_1 l0_1.length c0_1]) (t := 29) ?_; intro gm hgm w1 bm b1; have HB1 := bT HB.out b1; clear hgm) | ((with_reducible refine gD (N := 5) rfl ?_); refine zX (N := 5) (cs := #[.slice A2 l2.length c2]) (t := 25) ?_; intro gv hgv w2 bv b2; have bm2 := kB bm b2; have HB2 := bT HB1 b2; have GV : w.heap.size ≤ gv := (by have := HB1.size; omega); clear hgv; have hm0 : w2.cell? ⟨gm, 0, none⟩ = some (.slice A0_0 l0_0.length c0_0) := (kC bm2 0).trans rfl; have hm1 : w2.cell? ⟨gm, 1, none⟩ = some (.slice A0_1 l0_1.length c0_1) := (kC bm2 1).trans rfl; have hv0 : w2.cell? ⟨gv, 0, none⟩ = some (.slice A2 l2.length c2) := (kC bv 0).trans rfl) | (go_at_call 20; refine (impl_VoltageValid.calls k A0_0 c0_0 l0_0 A0_1 c0_1 l0_1 a1 A2 c2 l2 true w2 (cB HR0_0.out HB2) HC0_0.out (cB HR0_1.out HB2) HC0_1.out (cB HR2.out HB2) HC2.out A1).mono ?_; rintro e w3 ⟨rfl, b3⟩; have HB3 := bT HB2 b3; have bv3 := kB bv b3) | ((with_reducible refine gD (N := 7) rfl ?_); refine zX (N := 7) (cs := #[.int .i64 0]) (t := 3) ?_; intro gn hgn w4 bn b4; have bv4 := kB bv3 b4; have HB4 := bT HB3 b4; have GN : w.heap.size ≤ gn := (by have := HB3.size; omega); have NVN : gv ≠ gn := (by have := kL bv3; omega); clear hgn; have hn0 : w4.cell? ⟨gn, 0, none⟩ = some (.int .i64 0) := (kC bn 0).trans rfl; have hf0 := kF bn 0) | ((with_reducible refine gS (t := 3) (p := 7) rfl ?_); refine store_event (t := 3) (p := 7) (v := ?vo) (w1 := w4.setCell ⟨gn, 0, none⟩ (.int .i64 0)) ?hg ?ho ?hn ?hr ?_; (case ho => rfl); (case hg => rfl); (case hn => rfl); (case hr => first | (go_simp; done) | (go_simp; rfl)); intro w5 hw; have bn5 : w5.heap[gn]? = some (.cells #[.int .i64 0] 3 (0, 0)) := (by rw [hw]; exact blk_put bn 0 _ rfl); have bv5 : w5.heap[gv]? = some (.cells #[.slice A2 l2.length c2] 25 (0, 0)) := (by rw [hw]; exact blk_far bv4 NVN _); have HB5 : Below w.heap.size w w5 := (by rw [hw]; exact bS HB4 GN); clear hw hn0 hf0) | (go_at_call 68; refine (impl_CoverDeck.perms gv gn A2 c2 l2 a1 NVN HC2.out k 0 r w5 (Kd.C_kept_came (Kd.heap_slice 3 (Kd.heap_int .i64)) HR2.out HB5 (fun k_ e_ => by rw [e_]; exact GN)) bv5 bn5 H).mono ?_; rintro e w6 ⟨⟨x, rfl⟩, hn6, hk6, hu6⟩; have hn7 : w6.cell? ⟨gn, 0, none⟩ = some (.int .i64 r) := (kC hn6 0).trans rfl))
 go_ret
 exact ⟨by first | rfl | (simp [*] <;> rfl), HB5.trans (hu6.mono GN)⟩


end Go.Proofs.Ytmcgkckdnelcdaa.PFnExactCoverDeck
