-- Made by a program of this session (wip/tools) out of the loaded program; not trusted: Lean checks it.
import Derived.Test.YtikkokflcgcnbaaGreatDoorXE
import Derived.Test.YtikkokflcgcnbaaGreatDoorXC
import Derived.Test.YtikkokflcgcnbaaGreatDoorPFnExecuteClassx0
import Derived.Test.YtikkokflcgcnbaaGreatDoorPFnExecuteClassx1
import Derived.Test.YtikkokflcgcnbaaGreatDoorPFnExecuteClassx2
import Derived.Test.YtikkokflcgcnbaaGreatDoorPFnExecuteClassx3
-- packed
namespace Go.Proofs.YtikkokflcgcnbaaGreatDoor.PFnExecuteClass
open Go.RowKit Go.Proofs.YtikkokflcgcnbaaGreatDoorW.PrintWords Go.Proofs.YtikkokflcgcnbaaGreatDoorW.PrintLast Go.Proofs.YtikkokflcgcnbaaGreatDoorW.PrintMore
attribute [local go_sem] max2_int min2_int max_two min_two max_three min_three max_four min_four   -- for this text's walks alone
set_option linter.unusedVariables false
set_option linter.unusedSimpArgs false

/-! ### impl_WordNumber: function 43 -/
def impl_WordNumber.f (k : Nat) (a0 : ByteArray) : Option (Int) := (impl_WordValid.f a0).bind fun t146 => (if t146 = true then ((impl_cornersOf.f k a0).bind fun t147 => (some (wrap64 ((wrap64 (t147 - (wrap64 ((a0.size : Int) / 2)))) + 1)))) else (some (-100)))
set_option maxHeartbeats 8000000 in
set_option maxRecDepth 100000 in
theorem impl_WordNumber.calls (k : Nat) (a0 : ByteArray) (r : Int) (w : World) (h : impl_WordNumber.f k a0 = some r) :
    Calls Tryz.prog 43 #[.string a0] w fun e w' => e = .returned (.int .i64 r) ∧ Below w.heap.size w w' := by
 have HB := A0_ (Below.refl w.heap.size w)
 have H : ((impl_WordValid.f a0).bind fun t146 => (if t146 = true then ((impl_cornersOf.f k a0).bind fun t147 => (some (wrap64 ((wrap64 (t147 - (wrap64 ((a0.size : Int) / 2)))) + 1)))) else (some (-100)))) = some r := h
 clear h; obtain ⟨t146, A2, H⟩ := zbind H
 by_cases c3 : t146 = true
 ·subst c3
  rw [if_pos rfl] at H; obtain ⟨t147, A4, H⟩ := zbind H; obtain rfl := sI H
  go_enter Tryz.func43, Tryz.ntmps43
  go_wp2_with (first | ((with_reducible refine gC (f := 42) rfl ?_); refine zJ (some 4) Tryz.func42 #[.string a0] ?_; (with_reducible refine (impl_WordValid.calls a0 true _ A2.out).mono ?_); rintro e w5 ⟨rfl, hb⟩; refine ⟨_, rfl, ?_⟩; replace HB := zB HB hb; (try clear hb)) | ((with_reducible refine gC (f := 86) rfl ?_); refine zJ (some 7) Tryz.func86 #[.string a0] ?_; (with_reducible refine (impl_cornersOf.calls k a0 t147 _ A4.out).mono ?_); rintro e w6 ⟨rfl, hb⟩; refine ⟨_, rfl, ?_⟩; replace HB := zB HB hb; (try clear hb)))
  go_ret
  exact ⟨by first | rfl | (simp [*] <;> rfl), zB_ HB⟩
 replace c3 := Bool.eq_false_iff.mpr c3; subst c3
 rw [if_neg (show ¬ (false = true) by decide)] at H
 obtain rfl := sI H
 go_enter Tryz.func43, Tryz.ntmps43
 go_wp2_with (first | ((with_reducible refine gC (f := 42) rfl ?_); refine zJ (some 4) Tryz.func42 #[.string a0] ?_; (with_reducible refine (impl_WordValid.calls a0 false _ A2.out).mono ?_); rintro e w7 ⟨rfl, hb⟩; refine ⟨_, rfl, ?_⟩; replace HB := zB HB hb; (try clear hb)))
 go_ret
 exact ⟨by first | rfl | (simp [*] <;> rfl), zB_ HB⟩

/-! ### impl_WordSided: function 44 -/
def impl_WordSided.l0 : Nat → ByteArray → List Int → Int → Int → Option (Bool)
  | 0, _, _, _, _ => none
  | k + 1, x0, x9, x10, x11 => if x11 < x10 then (if 0 ≤ x11 then (if x11 < (x9.length : Int) then (if x11 < (x0.size : Int) then (if 0 ≤ (rd x9 x11) then (if (rd x9 x11) < (x0.size : Int) then (if (bt x0 x11) = (bt x0 (rd x9 x11)) then (some false) else (impl_WordSided.l0 k x0 x9 x10 (wrap64 (x11 + 1)))) else (none)) else (none)) else (none)) else (none)) else (none)) else (some true)
def impl_WordSided.f (k : Nat) (a0 : ByteArray) : Option (Bool) := (impl_WordValid.f a0).bind fun t148 => (if t148 = true then ((impl_partnersOf.f k a0).bind fun t149 => (impl_WordSided.l0 k a0 t149 (t149.length : Int) 0)) else (some false))
set_option maxHeartbeats 8000000 in
set_option maxRecDepth 100000 in
theorem impl_WordSided.calls (k : Nat) (a0 : ByteArray) (r : Bool) (w : World) (h : impl_WordSided.f k a0 = some r) :
    Calls Tryz.prog 44 #[.string a0] w fun e w' => e = .returned (.bool r) ∧ Below w.heap.size w w' := by
 have HB := A0_ (Below.refl w.heap.size w)
 have H : ((impl_WordValid.f a0).bind fun t148 => (if t148 = true then ((impl_partnersOf.f k a0).bind fun t149 => (impl_WordSided.l0 k a0 t149 (t149.length : Int) 0)) else (some false))) = some r := h
 clear h; obtain ⟨t148, A2, H⟩ := zbind H
 by_cases c3 : t148 = true
 ·subst c3
  rw [if_pos rfl] at H; obtain ⟨t149, A4, H⟩ := zbind H; have H' := A0_ H; clear H
  go_enter Tryz.func44, Tryz.ntmps44
  go_wp2_with (first | (go_at_call 42; (with_reducible refine (impl_WordValid.calls a0 true _ A2.out).mono ?_); rintro e w5 ⟨rfl, hb⟩; replace HB := zB HB hb; (try clear hb)) | (go_at_call 87; (with_reducible refine (impl_partnersOf.calls k a0 t149 _ A4.out).mono ?_); rintro e w6 ⟨v150, rfl, ho0, hb⟩; have HO151 := A0_ (rL ho0 (bZ (zB_ HB))); replace HB := zB HB hb; (try clear hb); (try clear ho0); obtain ⟨Ao7, co7, eo7⟩ := rS HO151.out; subst eo7))
  repeat (go_quiet (first | (go_at_call 42; (with_reducible refine (impl_WordValid.calls a0 true _ A2.out).mono ?_); rintro e w5 ⟨rfl, hb⟩; replace HB := zB HB hb; (try clear hb)) | (go_at_call 87; (with_reducible refine (impl_partnersOf.calls k a0 t149 _ A4.out).mono ?_); rintro e w6 ⟨v150, rfl, ho0, hb⟩; have HO151 := A0_ (rL ho0 (bZ (zB_ HB))); replace HB := zB HB hb; (try clear hb); (try clear ho0); obtain ⟨Ao7, co7, eo7⟩ := rS HO151.out; subst eo7)); try go_wp2_with (first | (go_at_call 42; (with_reducible refine (impl_WordValid.calls a0 true _ A2.out).mono ?_); rintro e w5 ⟨rfl, hb⟩; have n0_ := zB HB hb; clear HB; have HB := n0_; clear n0_; (try clear hb); (try clear hb2); (try clear hk); (try clear hi)) | (go_at_call 87; (with_reducible refine (impl_partnersOf.calls k a0 t149 _ A4.out).mono ?_); rintro e w6 ⟨v150, rfl, ho0, hb⟩; have n0_ := A0_ (rL ho0 (bZ (zB_ HB))); have n1_ := zB HB hb; clear HB; have HO151 := n0_; have HB := n1_; clear n0_ n1_; (try clear hb); (try clear hb2); (try clear hk); (try clear hi); (try clear ho0); obtain ⟨Ao7, co7, eo7⟩ := rS HO151.out; subst eo7)))
  go_loopg [11] k (fun kq v11 w' => ∃ (x11_1 : Int), v11 = .int .i64 x11_1 ∧ Aside0 (impl_WordSided.l0 kq a0 t149 (t149.length : Int) x11_1 = some r) ∧ Aside0 (kq ≤ k) ∧ Aside0 (Kd.R (Kd.int .i64) 3 w' w.heap.size (fun _ => True) (.slice Ao7 t149.length co7) t149) ∧ Aside0 (Below w.heap.size w w'))
  case atStart => exact ⟨(0), zt, H', ⟨Nat.le_refl _⟩, ⟨zR_ HO151⟩, ⟨zB_ HB⟩⟩
  case round =>
   clear H'; (try clear p2); (try clear c3); (try clear c4); obtain ⟨x11_1, rfl, HA, HK1, HO_9, HB⟩ := hrel
   cases gk with
   | zero => exact absurd HA.out (by simp [impl_WordSided.l0])
   | succ k1 =>
    have H := HA.out; clear HA; simp only [impl_WordSided.l0] at H
    by_cases c8 : x11_1 < (t149.length : Int)
    ·rw [if_pos c8] at H
     have c8b0 := dT c8; clear c8
     by_cases c9 : 0 ≤ x11_1
     ·rw [if_pos c9] at H
      have c9b0 := dT c9; clear c9
      by_cases c10 : x11_1 < (t149.length : Int)
      ·rw [if_pos c10] at H
       have c10b0 := dT c10; clear c10
       by_cases c11 : x11_1 < (a0.size : Int)
       ·rw [if_pos c11] at H
        have c11b0 := dT c11; clear c11
        by_cases c13 : 0 ≤ (rd t149 x11_1)
        ·rw [if_pos c13] at H
         have c13b0 := dT c13; clear c13
         by_cases c14 : (rd t149 x11_1) < (a0.size : Int)
         ·rw [if_pos c14] at H
          have c14b0 := dT c14; clear c14
          by_cases c16 : (bt a0 x11_1) = (bt a0 (rd t149 x11_1))
          ·rw [if_pos c16] at H
           have c16b0 : ((bt a0 x11_1) == (bt a0 (rd t149 x11_1))) = true := beq_iff_eq.mpr c16
           have c16b1 : ((bt a0 x11_1) != (bt a0 (rd t149 x11_1))) = false := bne_eq_false_iff_eq.mpr c16
           clear c16; obtain rfl := sI H
           have p152 : 0 ≤ (x11_1 : Int) := zd
           have q152 : x11_1 < (t149.length : Int) := zd
           obtain ⟨ad152, e152, hx152_0⟩ := tI (rR HO_9.out).2.2 x11_1 p152 q152
           cases e152
           replace p152 := eq_true p152; replace q152 := eq_true q152
           have p12 : 0 ≤ (x11_1 : Int) := zd
           have q12 : x11_1 < (a0.size : Int) := zd
           have hx12 := bt_at a0 x11_1; replace p12 := eq_true p12; replace q12 := eq_true q12
           have p15 : 0 ≤ ((rd t149 x11_1) : Int) := zd
           have q15 : (rd t149 x11_1) < (a0.size : Int) := zd
           have hx15 := bt_at a0 (rd t149 x11_1)
           replace p15 := eq_true p15; replace q15 := eq_true q15
           go_wp2
           repeat (go_quiet (fail); try go_wp2)
           go_ret
           exact ⟨by first | rfl | (simp [*] <;> rfl), zB_ HB⟩
          rw [if_neg c16] at H
          have c16b0 : ((bt a0 x11_1) == (bt a0 (rd t149 x11_1))) = false := beq_eq_false_iff_ne.mpr c16
          have c16b1 : ((bt a0 x11_1) != (bt a0 (rd t149 x11_1))) = true := bne_iff_ne.mpr c16
          have H' := A0_ H; clear H
          have p152 : 0 ≤ (x11_1 : Int) := zd
          have q152 : x11_1 < (t149.length : Int) := zd
          obtain ⟨ad152, e152, hx152_0⟩ := tI (rR HO_9.out).2.2 x11_1 p152 q152
          cases e152
          replace p152 := eq_true p152; replace q152 := eq_true q152
          have p12 : 0 ≤ (x11_1 : Int) := zd
          have q12 : x11_1 < (a0.size : Int) := zd
          have hx12 := bt_at a0 x11_1; replace p12 := eq_true p12; replace q12 := eq_true q12
          have p15 : 0 ≤ ((rd t149 x11_1) : Int) := zd
          have q15 : (rd t149 x11_1) < (a0.size : Int) := zd
          have hx15 := bt_at a0 (rd t149 x11_1)
          replace p15 := eq_true p15; replace q15 := eq_true q15
          go_wp2
          repeat (go_quiet (fail); try go_wp2)
          go_roundg k1
          case measure => have := HK1.out; omega
          case rel => exact ⟨(wrap64 (x11_1 + 1)), zt, H', ⟨by have := HK1.out; omega⟩, ⟨zR_ HO_9⟩, ⟨zB_ HB⟩⟩
         rw [if_neg c14] at H
         exact absurd H (by simp)
        rw [if_neg c13] at H
        exact absurd H (by simp)
       rw [if_neg c11] at H
       exact absurd H (by simp)
      rw [if_neg c10] at H
      exact absurd H (by simp)
     rw [if_neg c9] at H
     exact absurd H (by simp)
    rw [if_neg c8] at H; have c8b0 := dF c8; clear c8; obtain rfl := sI H
    go_wp2
    repeat (go_quiet (fail); try go_wp2)
    go_ret
    exact ⟨by first | rfl | (simp [*] <;> rfl), zB_ HB⟩
 replace c3 := Bool.eq_false_iff.mpr c3; subst c3
 rw [if_neg (show ¬ (false = true) by decide)] at H
 obtain rfl := sI H
 go_enter Tryz.func44, Tryz.ntmps44
 go_wp2_with (first | (go_at_call 42; (with_reducible refine (impl_WordValid.calls a0 false _ A2.out).mono ?_); rintro e w17 ⟨rfl, hb⟩; replace HB := zB HB hb; (try clear hb)))
 repeat (go_quiet (first | (go_at_call 42; (with_reducible refine (impl_WordValid.calls a0 false _ A2.out).mono ?_); rintro e w17 ⟨rfl, hb⟩; replace HB := zB HB hb; (try clear hb))); try go_wp2_with (first | (go_at_call 42; (with_reducible refine (impl_WordValid.calls a0 false _ A2.out).mono ?_); rintro e w17 ⟨rfl, hb⟩; have n0_ := zB HB hb; clear HB; have HB := n0_; clear n0_; (try clear hb); (try clear hb2); (try clear hk); (try clear hi))))
 go_ret
 exact ⟨by first | rfl | (simp [*] <;> rfl), zB_ HB⟩

/-! ### impl_WordClass: function 16 -/
def impl_WordClass.f (k : Nat) (a0 : ByteArray) : Option (ByteArray) := (impl_WordValid.f a0).bind fun t153 => (if t153 = true then ((impl_WordNumber.f k a0).bind fun t154 => ((impl_WordSided.f k a0).bind fun t155 => (if t155 = true then ((strconv_Itoa.f (wrap64 (Int.tdiv (wrap64 (2 - t154)) 2))).bind fun t156 => (if 1 + t156.size ≤ 9223372036854775807 then (some ((⟨#[83]⟩ : ByteArray) ++ t156)) else (none))) else ((strconv_Itoa.f (wrap64 (2 - t154))).bind fun t157 => (if 1 + t157.size ≤ 9223372036854775807 then (some ((⟨#[80]⟩ : ByteArray) ++ t157)) else (none)))))) else (some (⟨#[]⟩ : ByteArray)))
set_option maxHeartbeats 8000000 in
set_option maxRecDepth 100000 in
theorem impl_WordClass.calls (k : Nat) (a0 : ByteArray) (r : ByteArray) (w : World) (h : impl_WordClass.f k a0 = some r) :
    Calls Tryz.prog 16 #[.string a0] w fun e w' => e = .returned (.string r) ∧ Below w.heap.size w w' := by
 have HB := A0_ (Below.refl w.heap.size w)
 have H : ((impl_WordValid.f a0).bind fun t153 => (if t153 = true then ((impl_WordNumber.f k a0).bind fun t154 => ((impl_WordSided.f k a0).bind fun t155 => (if t155 = true then ((strconv_Itoa.f (wrap64 (Int.tdiv (wrap64 (2 - t154)) 2))).bind fun t156 => (if 1 + t156.size ≤ 9223372036854775807 then (some ((⟨#[83]⟩ : ByteArray) ++ t156)) else (none))) else ((strconv_Itoa.f (wrap64 (2 - t154))).bind fun t157 => (if 1 + t157.size ≤ 9223372036854775807 then (some ((⟨#[80]⟩ : ByteArray) ++ t157)) else (none)))))) else (some (⟨#[]⟩ : ByteArray)))) = some r := h
 clear h; obtain ⟨t153, A2, H⟩ := zbind H
 by_cases c3 : t153 = true
 ·subst c3
  rw [if_pos rfl] at H; obtain ⟨t154, A4, H⟩ := zbind H; obtain ⟨t155, A5, H⟩ := zbind H
  by_cases c6 : t155 = true
  ·subst c6
   rw [if_pos rfl] at H; obtain ⟨t156, A7, H⟩ := zbind H
   by_cases c8 : 1 + t156.size ≤ 9223372036854775807
   ·rw [if_pos c8] at H
    have c8b0 := eq_true c8; have c8b1 := dT c8
    try have c8b2 : (9223372036854775807 < 1 + t156.size) = False := eq_false (Nat.not_lt.2 c8)
    obtain ⟨zs9, hzs9⟩ : ∃ j_ : ByteArray, ((⟨#[83]⟩ : ByteArray) ++ t156) = j_ := ⟨_, rfl⟩
    replace H : (some zs9) = some r := by first | (rw [hzs9] at H; exact H) | (simp only [hzs9] at H ⊢; exact H) | exact H
    (try rw [hzs9] at A2)
    (try rw [hzs9] at A4)
    (try rw [hzs9] at A5)
    (try rw [hzs9] at A7)
    obtain rfl := sI H
    go_enter Tryz.func16, Tryz.ntmps16
    go_wp2_with (first | ((with_reducible refine gC (f := 42) rfl ?_); refine zJ (some 5) Tryz.func42 #[.string a0] ?_; (with_reducible refine (impl_WordValid.calls a0 true _ A2.out).mono ?_); rintro e w10 ⟨rfl, hb⟩; refine ⟨_, rfl, ?_⟩; replace HB := zB HB hb; (try clear hb)) | ((with_reducible refine gC (f := 43) rfl ?_); refine zJ (some 8) Tryz.func43 #[.string a0] ?_; (with_reducible refine (impl_WordNumber.calls k a0 t154 _ A4.out).mono ?_); rintro e w11 ⟨rfl, hb⟩; refine ⟨_, rfl, ?_⟩; replace HB := zB HB hb; (try clear hb)) | ((with_reducible refine gC (f := 44) rfl ?_); refine zJ (some 11) Tryz.func44 #[.string a0] ?_; (with_reducible refine (impl_WordSided.calls k a0 true _ A5.out).mono ?_); rintro e w12 ⟨rfl, hb⟩; refine ⟨_, rfl, ?_⟩; replace HB := zB HB hb; (try clear hb)) | ((with_reducible refine gC (f := 38) rfl ?_); refine zJ (some 14) Tryz.func38 #[.int .i64 (wrap64 (Int.tdiv (wrap64 (2 - t154)) 2))] ?_; (with_reducible refine (strconv_Itoa.calls (wrap64 (Int.tdiv (wrap64 (2 - t154)) 2)) t156 _ A7.out).mono ?_); rintro e w' ⟨rfl, ⟨nd, rfl⟩⟩; refine ⟨_, rfl, ?_⟩))
    go_ret
    exact ⟨by first | rfl | (simp [*] <;> rfl), zB_ HB⟩
   rw [if_neg c8] at H
   exact absurd H (by simp)
  replace c6 := Bool.eq_false_iff.mpr c6; subst c6
  rw [if_neg (show ¬ (false = true) by decide)] at H
  obtain ⟨t157, A13, H⟩ := zbind H
  by_cases c14 : 1 + t157.size ≤ 9223372036854775807
  ·rw [if_pos c14] at H
   have c14b0 := eq_true c14; have c14b1 := dT c14
   try have c14b2 : (9223372036854775807 < 1 + t157.size) = False := eq_false (Nat.not_lt.2 c14)
   obtain ⟨zs15, hzs15⟩ : ∃ j_ : ByteArray, ((⟨#[80]⟩ : ByteArray) ++ t157) = j_ := ⟨_, rfl⟩
   replace H : (some zs15) = some r := by first | (rw [hzs15] at H; exact H) | (simp only [hzs15] at H ⊢; exact H) | exact H
   (try rw [hzs15] at A2)
   (try rw [hzs15] at A4)
   (try rw [hzs15] at A5)
   (try rw [hzs15] at A13)
   obtain rfl := sI H
   go_enter Tryz.func16, Tryz.ntmps16
   go_wp2_with (first | ((with_reducible refine gC (f := 42) rfl ?_); refine zJ (some 5) Tryz.func42 #[.string a0] ?_; (with_reducible refine (impl_WordValid.calls a0 true _ A2.out).mono ?_); rintro e w16 ⟨rfl, hb⟩; refine ⟨_, rfl, ?_⟩; replace HB := zB HB hb; (try clear hb)) | ((with_reducible refine gC (f := 43) rfl ?_); refine zJ (some 8) Tryz.func43 #[.string a0] ?_; (with_reducible refine (impl_WordNumber.calls k a0 t154 _ A4.out).mono ?_); rintro e w17 ⟨rfl, hb⟩; refine ⟨_, rfl, ?_⟩; replace HB := zB HB hb; (try clear hb)) | ((with_reducible refine gC (f := 44) rfl ?_); refine zJ (some 11) Tryz.func44 #[.string a0] ?_; (with_reducible refine (impl_WordSided.calls k a0 false _ A5.out).mono ?_); rintro e w18 ⟨rfl, hb⟩; refine ⟨_, rfl, ?_⟩; replace HB := zB HB hb; (try clear hb)) | ((with_reducible refine gC (f := 38) rfl ?_); refine zJ (some 17) Tryz.func38 #[.int .i64 (wrap64 (2 - t154))] ?_; (with_reducible refine (strconv_Itoa.calls (wrap64 (2 - t154)) t157 _ A13.out).mono ?_); rintro e w' ⟨rfl, ⟨nd, rfl⟩⟩; refine ⟨_, rfl, ?_⟩))
   go_ret
   exact ⟨by first | rfl | (simp [*] <;> rfl), zB_ HB⟩
  rw [if_neg c14] at H
  exact absurd H (by simp)
 replace c3 := Bool.eq_false_iff.mpr c3; subst c3
 rw [if_neg (show ¬ (false = true) by decide)] at H
 obtain rfl := sI H
 go_enter Tryz.func16, Tryz.ntmps16
 go_wp2_with (first | ((with_reducible refine gC (f := 42) rfl ?_); refine zJ (some 5) Tryz.func42 #[.string a0] ?_; (with_reducible refine (impl_WordValid.calls a0 false _ A2.out).mono ?_); rintro e w19 ⟨rfl, hb⟩; refine ⟨_, rfl, ?_⟩; replace HB := zB HB hb; (try clear hb)))
 go_ret
 exact ⟨by first | rfl | (simp [*] <;> rfl), zB_ HB⟩

/-! ### impl_numberOf: function 67 -/
mutual
def impl_numberOf.j0 : Nat → ByteArray → Bool → Option (Int)
  | 0, _, _ => none
  | k + 1, x0, x12 => if x12 = true then (some (-1)) else (impl_numberOf.l0 k x0 0 (x0.size : Int) 0)
def impl_numberOf.l0 : Nat → ByteArray → Int → Int → Int → Option (Int)
  | 0, _, _, _, _ => none
  | k + 1, x0, x3, x14, x15 => if x15 < x14 then (if 0 ≤ x15 then (if x15 < (x0.size : Int) then (if (bt x0 x15) < 48 then (some (-1)) else (if (bt x0 x15) > 57 then (some (-1)) else (impl_numberOf.l0 k x0 (wrap64 ((wrap64 (x3 * 10)) + (((bt x0 x15) - 48) % 256))) x14 (wrap64 (x15 + 1))))) else (none)) else (none)) else (some x3)
end
def impl_numberOf.f (k : Nat) (a0 : ByteArray) : Option (Int) := if (a0.size : Int) < 1 then (impl_numberOf.j0 k a0 true) else (impl_numberOf.j0 k a0 (decide ((a0.size : Int) > 2)))
set_option maxHeartbeats 8000000 in
set_option maxRecDepth 100000 in
theorem impl_numberOf.calls (k : Nat) (a0 : ByteArray) (r : Int) (w : World) (h : impl_numberOf.f k a0 = some r) :
    Calls Tryz.prog 67 #[.string a0] w fun e w' => e = .returned (.int .i64 r) ∧ Drawn0 w w' := by
 have H : (if (a0.size : Int) < 1 then (impl_numberOf.j0 k a0 true) else (impl_numberOf.j0 k a0 (decide ((a0.size : Int) > 2)))) = some r := h
 clear h; have HC2 := A0_ H; clear H
 go_enter Tryz.func67, Tryz.ntmps67
 go_upto_region 1 with (fail)
 go_cut [12] (fun v12 wc => ∃ (kq : Nat) (x12_1 : Bool), v12 = .bool x12_1 ∧ Aside0 (impl_numberOf.j0 kq a0 x12_1 = some r) ∧ Aside0 (kq ≤ k) ∧ Drawn0 w wc)
 case first =>
  have H := HC2.out; clear HC2
  by_cases c3 : (a0.size : Int) < 1
  ·rw [if_pos c3] at H
   have c3b0 := dT c3
   have c3b1 : decide (a0.size < 1) = true := dT (by omega)
   clear c3
   (first | rw [c3b0] | (simp only [i64_w, i32_w]; rw [c3b0]) | skip)
   have H' := A0_ H; clear H
   go_wp2
   go_meet
   case rel => exact ⟨_, (true), zt, H', zo, by repeat (first | exact Drawn0.refl _ | apply Drawn0.step)⟩
  rw [if_neg c3] at H; have c3b0 := dF c3
  have c3b1 : decide (a0.size < 1) = false := dF (by omega)
  clear c3
  (first | rw [c3b0] | (simp only [i64_w, i32_w]; rw [c3b0]) | skip)
  have H' := A0_ H; clear H
  go_wp2
  go_meet
  case rel => exact ⟨_, (decide ((a0.size : Int) > 2)), zt, H', zo, by repeat (first | exact Drawn0.refl _ | apply Drawn0.step)⟩
 case rest =>
  clear HC2; (try clear p2); (try clear c3); (try clear c3b0); (try clear c3b1); obtain ⟨kq, x12_1, rfl, HA, HJ1, ⟨mc1, rfl⟩⟩ := hcut
  cases kq with
  | zero => exact absurd HA.out (by simp [impl_numberOf.j0])
  | succ kj1 =>
   have H := HA.out; clear HA; simp only [impl_numberOf.j0] at H
   by_cases c4 : x12_1 = true
   ·subst c4
    rw [if_pos rfl] at H; obtain rfl := sI H
    go_wp2
    go_ret
    exact ⟨by first | rfl | (simp; done) | (simp [*]; done), by repeat (first | exact Drawn0.refl _ | apply Drawn0.step)⟩
   replace c4 := Bool.eq_false_iff.mpr c4; subst c4
   rw [if_neg (show ¬ (false = true) by decide)] at H
   have H' := A0_ H; clear H
   go_wp2
   go_loopg [3, 15] kj1 (fun kq v3 v15 w' => ∃ (x3_2 : Int) (x15_2 : Int), v3 = .int .i64 x3_2 ∧ v15 = .int .i64 x15_2 ∧ Aside0 (impl_numberOf.l0 kq a0 x3_2 (a0.size : Int) x15_2 = some r) ∧ Aside0 (kq ≤ kj1) ∧ Drawn0 w w')
   case atStart => exact ⟨(0), (0), zt, zt, H', ⟨Nat.le_refl _⟩, by repeat (first | exact Drawn0.refl _ | apply Drawn0.step)⟩
   case round =>
    clear H'; (try clear c1); (try clear p2); (try clear c3); (try clear c3b0); (try clear c3b1); (try clear c4); (try clear p2); obtain ⟨x3_2, x15_2, rfl, rfl, HA, HK2, ⟨m2, rfl⟩⟩ := hrel
    cases gk with
    | zero => exact absurd HA.out (by simp [impl_numberOf.l0])
    | succ k2 =>
     have H := HA.out; clear HA; simp only [impl_numberOf.l0] at H
     by_cases c5 : x15_2 < (a0.size : Int)
     ·rw [if_pos c5] at H
      have c5b0 := dT c5; clear c5
      by_cases c6 : 0 ≤ x15_2
      ·rw [if_pos c6] at H
       have c6b0 := dT c6; clear c6
       by_cases c7 : x15_2 < (a0.size : Int)
       ·rw [if_pos c7] at H
        have c7b0 := dT c7; clear c7
        by_cases c9 : (bt a0 x15_2) < 48
        ·rw [if_pos c9] at H
         have c9b0 := dT c9; clear c9; obtain rfl := sI H
         have p8 : 0 ≤ (x15_2 : Int) := zd
         have q8 : x15_2 < (a0.size : Int) := zd
         have hx8 := bt_at a0 x15_2; replace p8 := eq_true p8; replace q8 := eq_true q8
         go_wp2
         go_ret
         exact ⟨by first | rfl | (simp; done) | (simp [*]; done), by repeat (first | exact Drawn0.refl _ | apply Drawn0.step)⟩
        rw [if_neg c9] at H; have c9b0 := dF c9; clear c9
        by_cases c11 : (bt a0 x15_2) > 57
        ·rw [if_pos c11] at H
         have c11b0 : decide (57 < (bt a0 x15_2)) = true := dT c11
         clear c11; obtain rfl := sI H
         have p8 : 0 ≤ (x15_2 : Int) := zd
         have q8 : x15_2 < (a0.size : Int) := zd
         have hx8 := bt_at a0 x15_2; replace p8 := eq_true p8; replace q8 := eq_true q8
         have p10 : 0 ≤ (x15_2 : Int) := zd
         have q10 : x15_2 < (a0.size : Int) := zd
         have hx10 := bt_at a0 x15_2; replace p10 := eq_true p10; replace q10 := eq_true q10
         go_wp2
         go_ret
         exact ⟨by first | rfl | (simp; done) | (simp [*]; done), by repeat (first | exact Drawn0.refl _ | apply Drawn0.step)⟩
        rw [if_neg c11] at H
        have c11b0 : decide (57 < (bt a0 x15_2)) = false := dF c11
        clear c11; have H' := A0_ H; clear H
        have p8 : 0 ≤ (x15_2 : Int) := zd
        have q8 : x15_2 < (a0.size : Int) := zd
        have hx8 := bt_at a0 x15_2; replace p8 := eq_true p8; replace q8 := eq_true q8
        have p10 : 0 ≤ (x15_2 : Int) := zd
        have q10 : x15_2 < (a0.size : Int) := zd
        have hx10 := bt_at a0 x15_2; replace p10 := eq_true p10; replace q10 := eq_true q10
        have p12 : 0 ≤ (x15_2 : Int) := zd
        have q12 : x15_2 < (a0.size : Int) := zd
        have hx12 := bt_at a0 x15_2; replace p12 := eq_true p12; replace q12 := eq_true q12
        go_wp2
        go_roundg k2
        case measure => have := HJ1.out; have := HK2.out; omega
        case rel => exact ⟨(wrap64 ((wrap64 (x3_2 * 10)) + (((bt a0 x15_2) - 48) % 256))), (wrap64 (x15_2 + 1)), zt, zt, H', ⟨by have := HJ1.out; have := HK2.out; omega⟩, by repeat (first | exact Drawn0.refl _ | apply Drawn0.step)⟩
       rw [if_neg c7] at H
       exact absurd H (by simp)
      rw [if_neg c6] at H
      exact absurd H (by simp)
     rw [if_neg c5] at H; have c5b0 := dF c5; clear c5; obtain rfl := sI H
     go_wp2
     go_ret
     exact ⟨by first | rfl | (simp; done) | (simp [*]; done), by repeat (first | exact Drawn0.refl _ | apply Drawn0.step)⟩

/-! ### impl_Execute: function 11 -/
namespace impl_Execute
open Go.Proofs.YtikkokflcgcnbaaGreatDoor Go.WideMaps Go.Maps
theorem many_class : XC.many.atKey (.string [99, 108, 97, 115, 115]) (.lit (.int .i64 0)) = .lit (.int .i64 2) := by kernel_rfl
set_option maxHeartbeats 2000000 in
set_option maxRecDepth 100000 in
theorem cmd_class (k : Nat) (T U : List Int) (B b bw : Nat) (s : ByteArray) (w : World) (c : ByteArray) (hc : c.toList.isEmpty = false) (hcl : impl_WordClass.f k s = some c)
  (hm : XE.MapAt w B b T U) (hb : w.heap[bw]? = some (.cells ([⟨#[99, 108, 97, 115, 115]⟩, s].map Value.string).toArray 9 (0, 0))) (hBb : B ≤ b) (hBw : B ≤ w.heap.size) (m0 : Int) (n0 : impl_numberOf.f k ⟨#[99, 108, 97, 115, 115]⟩ = some m0) (m1 : Int) (n1 : impl_numberOf.f k s = some m1) :
  Calls Tryz.prog 37 #[.pointer (some ⟨b, 0, none⟩), .slice (some ⟨bw, 0, none⟩) 2 2] w fun e w' => e = .returned (.string c) ∧ Below w.heap.size w w' := by
  have b0 : w.cell? ⟨bw, 0, none⟩ = some (.string ⟨#[99, 108, 97, 115, 115]⟩) := (Lib.cell_of_heap hb 0).trans rfl
  have b1 : w.cell? ⟨bw, 1, none⟩ = some (.string s) := (Lib.cell_of_heap hb 1).trans rfl
  have hmm := @run_makeMap Tryz.prog
  obtain ⟨w1, w2, w3, w4, w5, w6, w7, w8, w9, w10, w11, w12, w13, w14, w15, r1, r2, r3, r4, r5, r6, r7, r8, r9, r10, r11, r12, r13, r14, r15, o15, g15⟩ := XC.laid w
  obtain ⟨n, hrun, hat, _⟩ := o15.lookup_int XC.key80 XC.und80 XC.und3 (XC.zero3 _) (keyOf_string_mk XC.und9 (s := ⟨#[99, 108, 97, 115, 115]⟩) (by decide))
  have hn : n = 2 := by
    have h := many_class.symm.trans hat
    simp only [DataW.lit.injEq, Lit.int.injEq] at h
    exact h.2.symm
  subst hn
  have c0 := g15.cell b0 (by simp)
  have c1 := g15.cell b1 (by simp)
  clear hat o15
  have mb := XE.map_keep (w' := w15) hm (fun q c e hq _ => g15.block q (XE.lt_of_heap hq) (by simp))
  have hz15 := g15.size
  have MB := Lib.hid mb; clear mb
  have HM := Lib.hid hm; clear hm
  have HB := Lib.hid hb; clear hb
  have N0 := Lib.hid n0; clear n0
  have N1 := Lib.hid n1; clear n1
  go_enter Tryz.func37, Tryz.ntmps37
  go_wp2
  have blt : bw < w15.heap.size := wL _ _ c0
  go_loopw [31] (fun i wr => ∃ (q : Nat) (a0 a1 a2 a3 : Int), q ≤ 2 ∧ i = .int .i64 q ∧ wr.heap[w15.heap.size]? = some (.cells #[.int .i64 a0, .int .i64 a1, .int .i64 a2, .int .i64 a3] 81 (0, 0)) ∧ Below w15.heap.size w15 wr ∧ w15.heap.size < wr.heap.size ∧ Hid ((0 < q → a0 = m0) ∧ (1 < q → a1 = m1)))
    (fun i _ => 2 - (RowKit.intOf i).toNat)
  case atStart => exact ⟨0, 0, 0, 0, 0, by omega, rfl, heap_alloc_new _ _, (Below.refl _ _).alloc (Nat.le_refl _) _, by simp, show (0 < 0 → (0 : Int) = m0) ∧ (1 < 0 → (0 : Int) = m1) from ⟨fun h => absurd h (by omega), fun h => absurd h (by omega)⟩⟩
  case round =>
    obtain ⟨q, a0, a1, a2, a3, hq, rfl, hrow, hnx, hlt, HA⟩ := hrel
    have d0 := (hnx.cell (p := ⟨bw, 0, none⟩) blt).trans c0
    have d1 := (hnx.cell (p := ⟨bw, 1, none⟩) blt).trans c1
    have bw' : bw < wr.heap.size := by omega
    have e0 : ∀ o, (wr.alloc o).cell? ⟨bw, 0, none⟩ = some (.string ⟨#[99, 108, 97, 115, 115]⟩) := fun o => (World.cell?_alloc_old _ _ _ (Nat.ne_of_lt bw')).trans d0
    have e1 : ∀ o, (wr.alloc o).cell? ⟨bw, 1, none⟩ = some (.string s) := fun o => (World.cell?_alloc_old _ _ _ (Nat.ne_of_lt bw')).trans d1
    rcases (by omega : q = 0 ∨ q = 1 ∨ q = 2) with rfl | rfl | rfl
    · go_wp2_with (go_at_call 67; (with_reducible refine (impl_numberOf.calls k _ m0 _ N0.out).mono ?_); rintro e w' ⟨rfl, hdr⟩; have hbw := hdr.below; have hrow' := (hbw.block w15.heap.size hlt).trans hrow; have f' := Lib.frozen_of_heap hrow' 0; have x' : w'.cell? ⟨w15.heap.size, 0, none⟩ = some (.int .i64 a0) := Lib.cell_of_heap hrow' 0)
      have hsz := hbw.size
      have hrow2 : (w'.setCell ⟨w15.heap.size, 0, none⟩ (.int .i64 m0)).heap[w15.heap.size]? = some (.cells #[.int .i64 m0, .int .i64 a1, .int .i64 a2, .int .i64 a3] 81 (0, 0)) := by simp [World.setCell, Array.getElem?_modify, hrow']
      go_roundw
      case rel => exact ⟨1, m0, a1, a2, a3, by omega, rfl, hrow2, (hnx.trans (hbw.mono (Nat.le_of_lt hlt))).setCell (p := ⟨w15.heap.size, 0, none⟩) (Nat.le_refl _) _, by simp [World.setCell]; omega, show (0 < 1 → m0 = m0) ∧ (1 < 1 → a1 = m1) from ⟨fun _ => rfl, fun h => HA.out.2 (by omega)⟩⟩
      case measure => simp [RowKit.intOf]
    · go_wp2_with (go_at_call 67; (with_reducible refine (impl_numberOf.calls k _ m1 _ N1.out).mono ?_); rintro e w' ⟨rfl, hdr⟩; have hbw := hdr.below; have hrow' := (hbw.block w15.heap.size hlt).trans hrow; have f' := Lib.frozen_of_heap hrow' 1; have x' : w'.cell? ⟨w15.heap.size, 1, none⟩ = some (.int .i64 a1) := Lib.cell_of_heap hrow' 1)
      have hsz := hbw.size
      have hrow2 : (w'.setCell ⟨w15.heap.size, 1, none⟩ (.int .i64 m1)).heap[w15.heap.size]? = some (.cells #[.int .i64 a0, .int .i64 m1, .int .i64 a2, .int .i64 a3] 81 (0, 0)) := by simp [World.setCell, Array.getElem?_modify, hrow']
      go_roundw
      case rel => exact ⟨2, a0, m1, a2, a3, by omega, rfl, hrow2, (hnx.trans (hbw.mono (Nat.le_of_lt hlt))).setCell (p := ⟨w15.heap.size, 1, none⟩) (Nat.le_refl _) _, by simp [World.setCell]; omega, show (0 < 2 → a0 = m0) ∧ (1 < 2 → m1 = m1) from ⟨fun h => HA.out.1 (by omega), fun _ => rfl⟩⟩
      case measure => simp [RowKit.intOf]
    have hA := HA.out
    obtain rfl : a0 = m0 := hA.1 (by omega)
    obtain rfl : a1 = m1 := hA.2 (by omega)
    clear hA HA
    have BB : Hid (Below w.heap.size w wr) := ((Below.refl w.heap.size w).grown g15 (Nat.le_refl _) (by simp)).trans (hnx.mono g15.size)
    have MW := Lib.hid (XE.map_keep (w' := wr) MB.out (fun q c e hq _ => hnx.block q (XE.lt_of_heap hq)))
    have HC := Lib.hid hcl; clear hcl
    go_wp2_with (go_at_call 16; (with_reducible refine (impl_WordClass.calls k _ c _ HC.out).mono ?_); rintro e w' ⟨rfl, hbw⟩)
    go_ret
    exact ⟨rfl, BB.out.trans (((Below.refl w.heap.size wr).alloc BB.out.size _).trans (hbw.mono (by have := BB.out.size; simp; omega)))⟩
def cmdF (k : Nat) (T U : List Int) : List ByteArray → Option (ByteArray × List Int × List Int)
  | [a, s] => if a = ⟨#[99, 108, 97, 115, 115]⟩ then (impl_numberOf.f k a).bind fun _ => (impl_numberOf.f k s).bind fun _ => (impl_WordClass.f k s).bind fun c => if c.toList.isEmpty then none else some (c, T, U) else none
  | _ => none
theorem cmd_good (k : Nat) : XE.Good (cmdF k) := by
  intro T U ws r B b bw w h hm hb hBb hBw
  unfold cmdF at h
  split at h
  · rename_i a s
    split at h
    · rename_i ha
      subst ha; obtain ⟨m0, n0, h⟩ := Option.bind_eq_some_iff.1 h; obtain ⟨m1, n1, h⟩ := Option.bind_eq_some_iff.1 h; obtain ⟨c, hc, h⟩ := Option.bind_eq_some_iff.1 h
      split at h
      · cases h
      rename_i hne
      obtain rfl := sI h
      refine (cmd_class k T U B b bw s w c (by simpa using hne) hc hm hb hBb hBw m0 n0 m1 n1).mono ?_
      rintro e w' ⟨he, hB⟩
      exact ⟨he, XE.map_keep hm (fun q c e hq _ => hB.block q (XE.lt_of_heap hq)), ⟨hB.os, hB.tape, hB.output, hB.size, fun q hq _ => hB.block q hq⟩⟩
    cases h
  cases h
end impl_Execute
def impl_Execute.f (k : Nat) (a0 : ByteArray) : Option ByteArray := if a0.size ≤ 500 then (XE.go (impl_Execute.cmdF k) (XE.linesOf a0).dropLast [1, 0] [1, 0] ⟨#[]⟩).bind fun r => (if r.1.length < 100 then some (r.2.2 ++ (⟨#[100, 97, 114, 116, 115, 32]⟩ ++ ⟨(Lib.decDigits r.1.length).toArray⟩ ++ ⟨#[10]⟩)) else none) else none
theorem impl_Execute.calls (k : Nat) (a0 : ByteArray) (r : ByteArray) (w : World) (h : impl_Execute.f k a0 = some r) : Calls Tryz.prog 11 #[.string a0] w fun e w' => e = .returned (.string r) ∧ Below w.heap.size w w' := by
  unfold impl_Execute.f at h
  split at h
  · rename_i ha
    obtain ⟨⟨T, U, o⟩, h1, h2⟩ := Option.bind_eq_some_iff.1 h
    split at h2
    · rename_i hT
      obtain rfl := sI h2
      exact XE.exec _ (impl_Execute.cmd_good k) a0 o T U w ha hT h1
    cases h2
  cases h


/-! ### laws_digits: function 22 -/
def laws_digits.f : Nat → Int → Option (ByteArray)
  | 0, _ => none
  | k + 1, a0 => if a0 < 10 then (some (strOfNums (([(wrap64 (48 + a0)) % 256] : List Int)))) else ((laws_digits.f k (wrap64 (Int.tdiv a0 10))).bind fun t161 => ((some (([(wrap64 (48 + (Int.tmod a0 10))) % 256] : List Int) : List Int)).bind fun y162 => (if t161.size + (strOfNums y162).size ≤ 9223372036854775807 then (some (t161 ++ (strOfNums y162))) else (none))))
def laws_digits.T3 : Bool × List (List Nat × List Nat) := (true, [([], []), ([0], [0]), ([1], [1]), ([], []), ([3], [3]), ([4], [4]), ([5], [5]), ([6], [6]), ([7], [7]), ([2, 8], [2, 8]), ([9, 2, 0, 1, 2, 3, 4, 5, 6, 7, 8, 9], [9])])
def laws_digits.B3 : List Nat := [0, 1, 3, 0, 8, 24, 56, 120, 248, 511, 1023]
theorem laws_digits.tab3 : rtab .any (opsOf Tryz.f22 3) = laws_digits.T3 := by kernel_rfl
theorem laws_digits.bits3 : waitsOk laws_digits.T3.2 laws_digits.B3 = true := by kernel_rfl
set_option maxHeartbeats 8000000 in
set_option maxRecDepth 100000 in
theorem laws_digits.calls (k : Nat) : ∀ (a0 : Int) (r : ByteArray) (w : World) (h : laws_digits.f k a0 = some r),
    Calls Tryz.prog 22 #[.int .i64 a0] w fun e w' => e = .returned (.string r) ∧ Below w.heap.size w w' := by
 induction k using Nat.strongRecOn with
 | _ k ih =>
 intro a0 r w h
 cases k with
 | zero => exact absurd h (by simp [laws_digits.f])
 | succ k =>
 simp only [laws_digits.f] at h
 have HB := A0_ (Below.refl w.heap.size w)
 have H : (if a0 < 10 then (some (strOfNums (([(wrap64 (48 + a0)) % 256] : List Int)))) else ((laws_digits.f k (wrap64 (Int.tdiv a0 10))).bind fun t161 => ((some (([(wrap64 (48 + (Int.tmod a0 10))) % 256] : List Int) : List Int)).bind fun y162 => (if t161.size + (strOfNums y162).size ≤ 9223372036854775807 then (some (t161 ++ (strOfNums y162))) else (none))))) = some r := h
 clear h
 by_cases c2 : a0 < 10
 ·rw [if_pos c2] at H
  have c2b0 := dT c2; clear c2
  obtain ⟨y158, hy158⟩ : ∃ y_ : List Int, y_ = (([(wrap64 (48 + a0)) % 256] : List Int)) := ⟨_, rfl⟩
  replace H : (some (strOfNums y158)) = some r := zH hy158 H
  have Ny158 := A0_ hy158; clear hy158; obtain rfl := sI H
  go_enter Tryz.func22, Tryz.ntmps22
  go_wp2_with (first | ((with_reducible refine gD (N := 8) rfl ?_); refine Kd.R_lit (Kd.int .u8) _ 5 ?hg (N := 8) ?hd (xs := ([(wrap64 (48 + a0)) % 256] : List Int)) (inner := [.int .u8 ((wrap64 (48 + a0)) % 256)]) (ok := fun _ => True) (okp := fun _ => True) ?hr ?hp (fun _ hk => hk) trivial (Below.refl _ _) (Nat.le_refl _) (by simp) ?_; (case hd => rfl); (case hg => rfl); (case hr => first | (go_simp; done) | (go_simp; rfl)); (case hp => exact (Reps.one (show Kd.M (Kd.int .u8) _ _ _ ((wrap64 (48 + a0)) % 256) [.int .u8 ((wrap64 (48 + a0)) % 256)] from rfl) (Reps.none _ _))); intro v159 w3 ho4 hb hg_ hnew_; clear hg_ hnew_; (first | rw [← Ny158.out] at ho4 | (simp only [Int.reduceToNat] at ho4; rw [← Ny158.out] at ho4)); have HO160 := A0_ (rL ho4 (bZ (zB_ HB))); replace HB := zB HB hb; clear hb ho4; have hcv5 := own_string (P := Tryz.prog) Tryz.underlying22 Tryz.underlying5 Tryz.underlying9 (Kd.own_of_R HO160.out)))
  go_ret
  exact ⟨by first | rfl | (simp [*] <;> rfl), zB_ HB⟩
 rw [if_neg c2] at H; have c2b0 := dF c2; clear c2; obtain ⟨t161, A6, H⟩ := zbind H
 obtain ⟨y162, hy162⟩ : ∃ y_ : List Int, y_ = (([(wrap64 (48 + (Int.tmod a0 10))) % 256] : List Int)) := ⟨_, rfl⟩
 replace H : (if t161.size + (strOfNums y162).size ≤ 9223372036854775807 then (some (t161 ++ (strOfNums y162))) else (none)) = some r := zH hy162 H
 have Ny162 := A0_ hy162; clear hy162
 by_cases c7 : t161.size + (strOfNums y162).size ≤ 9223372036854775807
 ·rw [if_pos c7] at H
  have c7b0 := eq_true c7; have c7b1 := dT c7
  try have c7b2 : (9223372036854775807 < t161.size + (strOfNums y162).size) = False := eq_false (Nat.not_lt.2 c7)
  obtain ⟨zs8, hzs8⟩ : ∃ j_ : ByteArray, (t161 ++ (strOfNums y162)) = j_ := ⟨_, rfl⟩
  replace H : (some zs8) = some r := by first | (rw [hzs8] at H; exact H) | (simp only [hzs8] at H ⊢; exact H) | exact H
  (try rw [hzs8] at A6)
  obtain rfl := sI H
  go_enter Tryz.func22, Tryz.ntmps22
  try go_wp2
  replace HB := A0_ (bD HB.out)
  refine start_ (n := 11) (S := fun w' => True) (ds := []) #[false, false, false, false, false, false, false, false, false, false, false] (by kernel_rfl) rfl rfl trivial (fun hHeld => ?_); refine with_tabW laws_digits.tab3 laws_digits.bits3 (fun HT_ HW_ => ?_)
  generalize w.drew = w9 at HB hHeld ⊢
  refine zP 0 (some 10) #[true,false,false,false,false,false,false,false,false,false,false] ?_
  refine zP 1 (some 11) #[true,true,false,false,false,false,false,false,false,false,false] ?_
  refine zP 3 (some 13) #[true,true,false,true,false,false,false,false,false,false,false] ?_
  refine zP 4 (some 14) #[true,true,false,true,true,false,false,false,false,false,false] ?_
  refine zP 5 (some 15) #[true,true,false,true,true,true,false,false,false,false,false] ?_
  refine zP 6 (some 16) #[true,true,false,true,true,true,true,false,false,false,false] ?_
  refine join_ (σ := Value) 2 #[true, true, true, true, true, true, true, true, true, false, false] (fun s_ => [(12, .string t161), (17, s_), (18, .string (strOfNums y162))]) (fun s_ w' => (Kd.R (Kd.int .u8) 5 w' w.heap.size (fun _ => True) s_ y162) ∧ (Below w.heap.size w w')) ?_ ?_
  rotate_left
  ·intro hCont
   refine two_ (i := 2) (j := 7) (Ni := some 12) (Nj := some 17) #[true, true, true, true, true, true, true, false, false, false, false] #[true, true, false, true, true, true, true, true, false, false, false] rfl rfl rfl rfl (two_of HT_.out (by kernel_rfl)) (by decide) (by decide) (fun K hK => ?_) (fun K hK => ?_)
   ·skip
    refine goes_ Tryz.func22 (by kernel_rfl) rfl #[.int .i64 (wrap64 (Int.tdiv a0 10))] (by rfl) rfl rfl (by (try simp only [List.map_toArray, List.map_cons, List.map_nil]); first | done | rfl | (simp only [List.length_drop, List.length_take]; rfl)) ?_
    with_reducible refine (ih k (by omega) (wrap64 (Int.tdiv a0 10)) t161 _ A6.out).mono ?_
    rintro e w10 ⟨rfl, hb⟩
    refine ⟨_, rfl, ?_⟩
    replace HB := zB HB hb; (try clear hb); (try clear hb2); (try clear hk); (try clear hi)
    refine hK.out _ _ trivial (fun hHeld => ?_)
    clear hK K
    refine norm_ (a' := ?_) ?_ ?_
    rotate_left
    ·show Act.put _ (some 12) _ = _
     simp only [Act.put, List.setIfInBounds_toArray, List.set_cons_zero, List.set_cons_succ, i64_w, i32_w]
     rfl
    refine one_ (i := 7) (N := some 17) #[true, true, true, true, true, true, true, true, false, false, false] rfl rfl (one_of HT_.out (by kernel_rfl)) (by decide) (fun K hK => ?_)
    refine Kd.R_lit_step (Kd.int .u8) _ 5 ?hg (N := 17) ?hd (xs := ([(wrap64 (48 + (Int.tmod a0 10))) % 256] : List Int)) (inner := [.int .u8 ((wrap64 (48 + (Int.tmod a0 10))) % 256)]) (ok := fun _ => True) (okp := fun _ => True) ?hr ?hp (fun _ hk => hk) trivial (Below.refl _ _) (Nat.le_refl _) (by simp) ?_; (case hd => rfl); (case hg => rfl); (case hr => first | (go_simp; done) | (go_simp; rfl)); (case hp => exact (Reps.one (show Kd.M (Kd.int .u8) _ _ _ ((wrap64 (48 + (Int.tmod a0 10))) % 256) [.int .u8 ((wrap64 (48 + (Int.tmod a0 10))) % 256)] from rfl) (Reps.none _ _)))
    intro v163 w11 ho12 hb hg_ hnew_
    clear hg_ hnew_
    (first | rw [← Ny162.out] at ho12 | (simp only [Int.reduceToNat] at ho12; rw [← Ny162.out] at ho12))
    have HO164 := A0_ (rL ho12 (bZ (zB_ HB)))
    replace HB := zB HB hb; clear hb ho12
    refine hK.out _ _ trivial (fun hHeld => ?_)
    clear hK K
    refine norm_ (a' := ?_) ?_ ?_
    rotate_left
    ·show Act.put _ (some 17) _ = _
     simp only [Act.put, List.setIfInBounds_toArray, List.set_cons_zero, List.set_cons_succ, i64_w, i32_w]
     rfl
    refine one_ (i := 8) (N := some 18) #[true, true, true, true, true, true, true, true, true, false, false] rfl rfl (one_of HT_.out (by kernel_rfl)) (by decide) (fun K hK => ?_)
    have hcv13 := own_string (P := Tryz.prog) Tryz.underlying22 Tryz.underlying5 Tryz.underlying9 (Kd.own_of_R HO164.out)
    refine value_ (w1 := ?_) (v := ?_) (by rfl) rfl ?_ ?_
    rotate_left 2
    ·go_simp
     constructor
     ·rfl
     rfl
    clear hcv13
    refine hK.out _ _ trivial (fun hHeld => ?_)
    clear hK K
    refine norm_ (a' := ?_) ?_ ?_
    rotate_left
    ·show Act.put _ (some 18) _ = _
     simp only [Act.put, List.setIfInBounds_toArray, List.set_cons_zero, List.set_cons_succ, i64_w, i32_w]
     rfl
    exact norm_ (by simp only [putAll, Act.put, List.setIfInBounds_toArray, List.set_cons_zero, List.set_cons_succ]) (hCont (v163) _ ⟨(zR_ HO164), (zB_ HB)⟩)
   skip
   refine Kd.R_lit_step (Kd.int .u8) _ 5 ?hg (N := 17) ?hd (xs := ([(wrap64 (48 + (Int.tmod a0 10))) % 256] : List Int)) (inner := [.int .u8 ((wrap64 (48 + (Int.tmod a0 10))) % 256)]) (ok := fun _ => True) (okp := fun _ => True) ?hr ?hp (fun _ hk => hk) trivial (Below.refl _ _) (Nat.le_refl _) (by simp) ?_; (case hd => rfl); (case hg => rfl); (case hr => first | (go_simp; done) | (go_simp; rfl)); (case hp => exact (Reps.one (show Kd.M (Kd.int .u8) _ _ _ ((wrap64 (48 + (Int.tmod a0 10))) % 256) [.int .u8 ((wrap64 (48 + (Int.tmod a0 10))) % 256)] from rfl) (Reps.none _ _)))
   intro v163 w10 ho11 hb hg_ hnew_
   clear hg_ hnew_
   (first | rw [← Ny162.out] at ho11 | (simp only [Int.reduceToNat] at ho11; rw [← Ny162.out] at ho11))
   have HO164 := A0_ (rL ho11 (bZ (zB_ HB)))
   replace HB := zB HB hb; clear hb ho11
   refine hK.out _ _ trivial (fun hHeld => ?_)
   clear hK K
   refine norm_ (a' := ?_) ?_ ?_
   rotate_left
   ·show Act.put _ (some 17) _ = _
    simp only [Act.put, List.setIfInBounds_toArray, List.set_cons_zero, List.set_cons_succ, i64_w, i32_w]
    rfl
   refine two_ (i := 2) (j := 8) (Ni := some 12) (Nj := some 18) #[true, true, true, true, true, true, true, true, false, false, false] #[true, true, false, true, true, true, true, true, true, false, false] rfl rfl rfl rfl (two_of HT_.out (by kernel_rfl)) (by decide) (by decide) (fun K hK => ?_) (fun K hK => ?_)
   ·skip
    refine goes_ Tryz.func22 (by kernel_rfl) rfl #[.int .i64 (wrap64 (Int.tdiv a0 10))] (by rfl) rfl rfl (by (try simp only [List.map_toArray, List.map_cons, List.map_nil]); first | done | rfl | (simp only [List.length_drop, List.length_take]; rfl)) ?_
    with_reducible refine (ih k (by omega) (wrap64 (Int.tdiv a0 10)) t161 _ A6.out).mono ?_
    rintro e w12 ⟨rfl, hb⟩
    refine ⟨_, rfl, ?_⟩
    replace HO164 := zR HO164 hb; replace HB := zB HB hb; (try clear hb); (try clear hb2); (try clear hk); (try clear hi)
    refine hK.out _ _ trivial (fun hHeld => ?_)
    clear hK K
    refine norm_ (a' := ?_) ?_ ?_
    rotate_left
    ·show Act.put _ (some 12) _ = _
     simp only [Act.put, List.setIfInBounds_toArray, List.set_cons_zero, List.set_cons_succ, i64_w, i32_w]
     rfl
    refine one_ (i := 8) (N := some 18) #[true, true, true, true, true, true, true, true, true, false, false] rfl rfl (one_of HT_.out (by kernel_rfl)) (by decide) (fun K hK => ?_)
    have hcv13 := own_string (P := Tryz.prog) Tryz.underlying22 Tryz.underlying5 Tryz.underlying9 (Kd.own_of_R HO164.out)
    refine value_ (w1 := ?_) (v := ?_) (by rfl) rfl ?_ ?_
    rotate_left 2
    ·go_simp
     constructor
     ·rfl
     rfl
    clear hcv13
    refine hK.out _ _ trivial (fun hHeld => ?_)
    clear hK K
    refine norm_ (a' := ?_) ?_ ?_
    rotate_left
    ·show Act.put _ (some 18) _ = _
     simp only [Act.put, List.setIfInBounds_toArray, List.set_cons_zero, List.set_cons_succ, i64_w, i32_w]
     rfl
    exact norm_ (by simp only [putAll, Act.put, List.setIfInBounds_toArray, List.set_cons_zero, List.set_cons_succ]) (hCont (v163) _ ⟨(zR_ HO164), (zB_ HB)⟩)
   skip
   have hcv12 := own_string (P := Tryz.prog) Tryz.underlying22 Tryz.underlying5 Tryz.underlying9 (Kd.own_of_R HO164.out)
   refine value_ (w1 := ?_) (v := ?_) (by rfl) rfl ?_ ?_
   rotate_left 2
   ·go_simp
    constructor
    ·rfl
    rfl
   clear hcv12
   refine hK.out _ _ trivial (fun hHeld => ?_)
   clear hK K
   refine norm_ (a' := ?_) ?_ ?_
   rotate_left
   ·show Act.put _ (some 18) _ = _
    simp only [Act.put, List.setIfInBounds_toArray, List.set_cons_zero, List.set_cons_succ, i64_w, i32_w]
    rfl
   refine one_ (i := 2) (N := some 12) #[true, true, true, true, true, true, true, true, true, false, false] rfl rfl (one_of HT_.out (by kernel_rfl)) (by decide) (fun K hK => ?_)
   refine goes_ Tryz.func22 (by kernel_rfl) rfl #[.int .i64 (wrap64 (Int.tdiv a0 10))] (by rfl) rfl rfl (by (try simp only [List.map_toArray, List.map_cons, List.map_nil]); first | done | rfl | (simp only [List.length_drop, List.length_take]; rfl)) ?_
   with_reducible refine (ih k (by omega) (wrap64 (Int.tdiv a0 10)) t161 _ A6.out).mono ?_
   rintro e w13 ⟨rfl, hb⟩
   refine ⟨_, rfl, ?_⟩
   replace HO164 := zR HO164 hb; replace HB := zB HB hb; (try clear hb); (try clear hb2); (try clear hk); (try clear hi)
   refine hK.out _ _ trivial (fun hHeld => ?_)
   clear hK K
   refine norm_ (a' := ?_) ?_ ?_
   rotate_left
   ·show Act.put _ (some 12) _ = _
    simp only [Act.put, List.setIfInBounds_toArray, List.set_cons_zero, List.set_cons_succ, i64_w, i32_w]
    rfl
   exact norm_ (by simp only [putAll, Act.put, List.setIfInBounds_toArray, List.set_cons_zero, List.set_cons_succ]) (hCont (v163) _ ⟨(zR_ HO164), (zB_ HB)⟩)
  rintro v163 w14 ⟨h0_, h1_⟩
  have HO164 : Aside0 (Kd.R (Kd.int .u8) 5 w14 w.heap.size (fun _ => True) v163 y162) := ⟨h0_⟩
  replace HB : Aside0 (Below w.heap.size w w14) := ⟨h1_⟩
  clear h0_ h1_; have hHeld := trivial
  refine norm_ (a' := ?_) ?_ ?_
  rotate_left
  ·simp only [putAll, Act.put, List.setIfInBounds_toArray, List.set_cons_zero, List.set_cons_succ]
   rfl
  refine zP 9 (some 19) #[true,true,true,true,true,true,true,true,true,true,false] ?_
  refine zP 10 (some 2) #[true,true,true,true,true,true,true,true,true,true,true] ?_
  refine done_ (done_of HT_.out (by kernel_rfl)) ?_
  try go_wp2
  go_ret
  exact ⟨by first | rfl | (simp [*] <;> rfl), zB_ HB⟩
 rw [if_neg c7] at H
 exact absurd H (by simp)

end Go.Proofs.YtikkokflcgcnbaaGreatDoor.PFnExecuteClass
