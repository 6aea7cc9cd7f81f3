-- Made by a program of this session (wip/tools) out of the loaded program; not trusted: Lean checks it.
import Derived.Test.YtpfnchjbbagmdaaDoorPFnNamesx0
import Derived.Test.YtpfnchjbbagmdaaDoorPFnNamesx4
import Derived.Test.YtpfnchjbbagmdaaDoorPFnNamesx5
import Derived.Test.YtpfnchjbbagmdaaDoorPFnNamesx6
namespace Go.Proofs.YtpfnchjbbagmdaaDoor.PFnNames
open Go.RowKit Go.Proofs.YtpfnchjbbagmdaaDoorW.PrintWords Go.Proofs.YtpfnchjbbagmdaaDoorW.PrintLast Go.Proofs.YtpfnchjbbagmdaaDoorW.PrintMore
attribute [local go_sem] max2_int min2_int max_two min_two max_three min_three max_four min_four   -- for this text's walks alone
set_option linter.unusedVariables false
set_option linter.unusedSimpArgs false

/-! ### laws_FnNames: function 5 -/
mutual
def laws_FnNames.j0 : Nat → ByteArray → ByteArray → Bool → ByteArray → Bool → Bool → Option (Bool)
  | 0, _, _, _, _, _, _ => none
  | k + 1, x3, x4, x5, x6, x7, x39 => if x39 = true then (if (x5 == x7) = true then (some (x4.toList == x6.toList)) else (some false)) else ((impl_WordNames.f k x4).bind fun bt253 => (laws_FnNames.l0 k x3 x4 bt253.1 bt253.2 0 0))
def laws_FnNames.l0 : Nat → ByteArray → ByteArray → ByteArray → Bool → Int → Int → Option (Bool)
  | 0, _, _, _, _, _, _ => none
  | k + 1, x3, x4, x8, x9, x10, x11 => if x11 < (x4.size : Int) then (if 0 ≤ x11 then (if (wrap64 ((wrap64 (bt x4 x11)) - 97)) = x10 then (laws_FnNames.l0 k x3 x4 x8 x9 (wrap64 (x10 + 1)) (wrap64 (x11 + 1))) else (if (wrap64 ((wrap64 (bt x4 x11)) - 97)) > x10 then (some false) else (laws_FnNames.l0 k x3 x4 x8 x9 x10 (wrap64 (x11 + 1))))) else (none)) else (if x9 = true then (if x8.toList = x4.toList then (if 0 < (x4.size : Int) then (if (bt x4 0) = 97 then ((impl_WordSame.f k x4 x3).bind fun t255 => (if t255 = true then (some ((wrap64 (2 * x10)) == (x3.size : Int))) else (some false))) else (some false)) else (none)) else (some false)) else (some false))
end
def laws_FnNames.f (k : Nat) (l0 : List Int) : Option (Bool) := if (l0.length : Int) > 1048576 then (some true) else ((spec_DrawWordNames.f k l0).bind fun t248 => ((impl_WordNames.f k t248).bind fun bt249 => ((spec_WordNames.f k t248).bind fun bt251 => (if (bt249.2 != bt251.2) = true then (laws_FnNames.j0 k t248 bt249.1 bt249.2 bt251.1 bt251.2 true) else (if bt249.1.toList = bt251.1.toList then (laws_FnNames.j0 k t248 bt249.1 bt249.2 bt251.1 bt251.2 (!bt249.2)) else (laws_FnNames.j0 k t248 bt249.1 bt249.2 bt251.1 bt251.2 true))))))
set_option maxHeartbeats 8000000 in
set_option maxRecDepth 100000 in
theorem laws_FnNames.calls (k : Nat) (A0 : Option Addr) (c0 : Nat) (l0 : List Int) (r : Bool) (w : World) (hr0 : Kd.C (Kd.int .u8) w A0 l0.length l0) (hc0 : l0.length ≤ c0) (h : laws_FnNames.f k l0 = some r) :
    Calls Tryd.prog 5 #[.slice A0 l0.length c0] w fun e w' => e = .returned (.bool r) ∧ Below w.heap.size w w' := by
 have HR0 := Aside0.mk hr0
 have HC0 := Aside0.mk hc0
 clear hr0 hc0
 have HB := Aside0.mk (Below.refl w.heap.size w)
 have H : (if (l0.length : Int) > 1048576 then (some true) else ((spec_DrawWordNames.f k l0).bind fun t248 => ((impl_WordNames.f k t248).bind fun bt249 => ((spec_WordNames.f k t248).bind fun bt251 => (if (bt249.2 != bt251.2) = true then (laws_FnNames.j0 k t248 bt249.1 bt249.2 bt251.1 bt251.2 true) else (if bt249.1.toList = bt251.1.toList then (laws_FnNames.j0 k t248 bt249.1 bt249.2 bt251.1 bt251.2 (!bt249.2)) else (laws_FnNames.j0 k t248 bt249.1 bt249.2 bt251.1 bt251.2 true))))))) = some r := h
 clear h
 by_cases c2 : (l0.length : Int) > 1048576
 ·rw [if_pos c2] at H
  have c2b0 : decide (1048576 < (l0.length : Int)) = true := decide_eq_true c2
  have c2b1 : decide (1048576 < l0.length) = true := decide_eq_true (by omega)
  clear c2
  obtain rfl := Option.some.inj H
  go_enter Tryd.func5, Tryd.ntmps5
  go_wp2
  go_ret
  exact ⟨by first | rfl | (simp [errW_none, errW_some] <;> rfl) | (simp [*, errW_none, errW_some] <;> rfl), by repeat (first | (with_reducible first | exact HB.out | apply below_alloc | apply pw_below_drewN | apply below_drew1) | exact HB.out)⟩
 ·rw [if_neg c2] at H
  have c2b0 : decide (1048576 < (l0.length : Int)) = false := decide_eq_false c2
  have c2b1 : decide (1048576 < l0.length) = false := decide_eq_false (by omega)
  clear c2
  replace H := Option.bind_eq_some_iff.mp H
  obtain ⟨t248, A30, H⟩ := H
  replace H : ((impl_WordNames.f k t248).bind fun bt249 => ((spec_WordNames.f k t248).bind fun bt251 => (if (bt249.2 != bt251.2) = true then (laws_FnNames.j0 k t248 bt249.1 bt249.2 bt251.1 bt251.2 true) else (if bt249.1.toList = bt251.1.toList then (laws_FnNames.j0 k t248 bt249.1 bt249.2 bt251.1 bt251.2 (!bt249.2)) else (laws_FnNames.j0 k t248 bt249.1 bt249.2 bt251.1 bt251.2 true))))) = some r := H
  have A3 := Aside0.mk A30
  clear A30
  replace H := Option.bind_eq_some_iff.mp H
  obtain ⟨⟨t249, t250⟩, A40, H⟩ := H
  replace H : ((spec_WordNames.f k t248).bind fun bt251 => (if (t250 != bt251.2) = true then (laws_FnNames.j0 k t248 t249 t250 bt251.1 bt251.2 true) else (if t249.toList = bt251.1.toList then (laws_FnNames.j0 k t248 t249 t250 bt251.1 bt251.2 (!t250)) else (laws_FnNames.j0 k t248 t249 t250 bt251.1 bt251.2 true)))) = some r := H
  have A4 := Aside0.mk A40
  clear A40
  replace H := Option.bind_eq_some_iff.mp H
  obtain ⟨⟨t251, t252⟩, A50, H⟩ := H
  replace H : (if (t250 != t252) = true then (laws_FnNames.j0 k t248 t249 t250 t251 t252 true) else (if t249.toList = t251.toList then (laws_FnNames.j0 k t248 t249 t250 t251 t252 (!t250)) else (laws_FnNames.j0 k t248 t249 t250 t251 t252 true))) = some r := H
  have A5 := Aside0.mk A50
  clear A50
  have HC6 := Aside0.mk H
  clear H
  go_enter Tryd.func5, Tryd.ntmps5
  go_upto_region 6 with (first | ((with_reducible refine gate_callee (f := 19) rfl ?_); refine goesL_ (some 17) rfl rfl Tryd.func19 (by kernel_rfl) rfl #[.slice A0 l0.length c0] rfl (by (try simp only [List.map_toArray, List.map_cons, List.map_nil]); first | done | rfl | (simp only [List.length_drop, List.length_take]; rfl)) ?_; (with_reducible refine (spec_DrawWordNames.calls k _ _ l0 t248 _ ?side1 ?side2 A3.out).mono ?_); (case side1 => repeat (first | exact HR0.out | (with_reducible refine Kd.C_alloc ?_ _) | (with_reducible refine Kd.C_drewN ?_ _) | (with_reducible refine Kd.C_drew ?_))); (case side2 => exact HC0.out); rintro e w7 ⟨rfl, hb⟩; refine ⟨_, rfl, ?_⟩; have n0_ := Aside0.mk (below_step (by repeat (first | (with_reducible first | exact HB.out | apply below_alloc | apply pw_below_drewN | apply below_drew1) | exact HB.out)) hb); clear HB; have HB := n0_; clear n0_; (try clear hb); (try clear hb2); (try clear hk); (try clear hi)) | ((with_reducible refine gate_callee (f := 20) rfl ?_); refine goesL_ (some 20) rfl rfl Tryd.func20 (by kernel_rfl) rfl #[.string t248] rfl (by (try simp only [List.map_toArray, List.map_cons, List.map_nil]); first | done | rfl | (simp only [List.length_drop, List.length_take]; rfl)) ?_; (with_reducible refine (impl_WordNames.calls k t248 t249 t250 _ A4.out).mono ?_); rintro e w8 ⟨rfl, hb⟩; refine ⟨_, rfl, ?_⟩; have n0_ := Aside0.mk (below_step (by repeat (first | (with_reducible first | exact HB.out | apply below_alloc | apply pw_below_drewN | apply below_drew1) | exact HB.out)) hb); clear HB; have HB := n0_; clear n0_; (try clear hb); (try clear hb2); (try clear hk); (try clear hi)) | ((with_reducible refine gate_callee (f := 21) rfl ?_); refine goesL_ (some 25) rfl rfl Tryd.func21 (by kernel_rfl) rfl #[.string t248] rfl (by (try simp only [List.map_toArray, List.map_cons, List.map_nil]); first | done | rfl | (simp only [List.length_drop, List.length_take]; rfl)) ?_; (with_reducible refine (spec_WordNames.calls k t248 t251 t252 _ A5.out).mono ?_); rintro e w9 ⟨rfl, hb⟩; refine ⟨_, rfl, ?_⟩; have n0_ := Aside0.mk (below_step (by repeat (first | (with_reducible first | exact HB.out | apply below_alloc | apply pw_below_drewN | apply below_drew1) | exact HB.out)) hb); clear HB; have HB := n0_; clear n0_; (try clear hb); (try clear hb2); (try clear hk); (try clear hi)))
  (try simp only [Act.put, List.setIfInBounds_toArray, List.set_cons_zero, List.set_cons_succ])
  go_cut [39] (fun v39 wc => ∃ (kq : Nat) (x39_5 : Bool), v39 = .bool x39_5 ∧ Aside0 (laws_FnNames.j0 kq t248 t249 t250 t251 t252 x39_5 = some r) ∧ Aside0 (kq ≤ k) ∧ Aside0 (Below w.heap.size w wc))
  case first =>
   have H := HC6.out
   clear HC6
   by_cases c10 : (t250 != t252) = true
   ·rw [if_pos c10] at H
    have c10b0 : (t250 != t252) = true := c10
    (try (have c10b1 : decide (t250 = t252) = false := by simpa using c10))
    (try (have c10b2 : (t250 == t252) = false := by simpa using c10))
    (try (have c10b3 : ¬ (t250 = t252) := by simpa using c10))
    clear c10
    (first | rw [c10b0] | (simp only [i64_w, i32_w]; rw [c10b0]) | skip)
    have H' := Aside0.mk H
    clear H
    go_wp2
    go_meet
    case rel => exact ⟨_, (true), (by first | rfl | (simp; done) | (simp [*]; done)), H', ⟨by first | omega | exact Nat.le_refl _⟩, ⟨by repeat (first | (with_reducible first | exact HB.out | apply below_alloc | apply pw_below_drewN | apply below_drew1) | exact HB.out)⟩⟩
   ·rw [if_neg c10] at H
    have c10b0 : (t250 != t252) = false := by simpa using c10
    (try (have c10b1 : decide (t250 = t252) = true := by simpa using c10))
    (try (have c10b2 : (t250 == t252) = true := by simpa using c10))
    clear c10
    (first | rw [c10b0] | (simp only [i64_w, i32_w]; rw [c10b0]) | skip)
    by_cases c11 : t249.toList = t251.toList
    ·rw [if_pos c11] at H
     have c11b0 : (t249.toList == t251.toList) = true := beq_iff_eq.mpr c11
     have c11b1 : (t249.toList != t251.toList) = false := bne_eq_false_iff_eq.mpr c11
     clear c11
     have H' := Aside0.mk H
     clear H
     go_wp2
     go_meet
     case rel => exact ⟨_, (!t250), (by first | rfl | (simp; done) | (simp [*]; done)), H', ⟨by first | omega | exact Nat.le_refl _⟩, ⟨by repeat (first | (with_reducible first | exact HB.out | apply below_alloc | apply pw_below_drewN | apply below_drew1) | exact HB.out)⟩⟩
    ·rw [if_neg c11] at H
     have c11b0 : (t249.toList == t251.toList) = false := beq_eq_false_iff_ne.mpr c11
     have c11b1 : (t249.toList != t251.toList) = true := bne_iff_ne.mpr c11
     have H' := Aside0.mk H
     clear H
     go_wp2
     go_meet
     case rel => exact ⟨_, (true), (by first | rfl | (simp; done) | (simp [*]; done)), H', ⟨by first | omega | exact Nat.le_refl _⟩, ⟨by repeat (first | (with_reducible first | exact HB.out | apply below_alloc | apply pw_below_drewN | apply below_drew1) | exact HB.out)⟩⟩
  case rest =>
   clear HC6
   try clear c1
   try clear c2
   try clear c2b0
   try clear c2b1
   try clear p2
   try clear c5
   try clear c10
   try clear c10b0
   try clear c10b1
   try clear c10b2
   try clear c11
   try clear c11b0
   try clear c11b1
   obtain ⟨kq, x39_5, rfl, HA, HJ5, HB⟩ := hcut
   cases kq with
   | zero => exact absurd HA.out (by simp [laws_FnNames.j0])
   | succ kj5 =>
    have H := HA.out
    clear HA
    simp only [laws_FnNames.j0] at H
    by_cases c12 : x39_5 = true
    ·subst c12
     have H1 : (if (t250 == t252) = true then (some (t249.toList == t251.toList)) else (some false)) = some r := by rw [if_pos rfl] at H; exact H
     clear H
     have H := H1
     clear H1
     by_cases c13 : (t250 == t252) = true
     ·rw [if_pos c13] at H
      have c13b0 : (t250 == t252) = true := c13
      (try (have c13b1 : decide (t250 = t252) = true := by simpa using c13))
      (try (have c13b2 : (t250 == t252) = true := by simpa using c13))
      clear c13
      obtain rfl := Option.some.inj H
      go_wp2
      go_ret
      exact ⟨by first | rfl | (simp [errW_none, errW_some] <;> rfl) | (simp [*, errW_none, errW_some] <;> rfl), by repeat (first | (with_reducible first | exact HB.out | apply below_alloc | apply pw_below_drewN | apply below_drew1) | exact HB.out)⟩
     ·rw [if_neg c13] at H
      have c13b0 : (t250 == t252) = false := by simpa using c13
      (try (have c13b1 : decide (t250 = t252) = false := by simpa using c13))
      (try (have c13b2 : (t250 == t252) = false := by simpa using c13))
      (try (have c13b3 : ¬ (t250 = t252) := by simpa using c13))
      clear c13
      obtain rfl := Option.some.inj H
      go_wp2
      go_ret
      exact ⟨by first | rfl | (simp [errW_none, errW_some] <;> rfl) | (simp [*, errW_none, errW_some] <;> rfl), by repeat (first | (with_reducible first | exact HB.out | apply below_alloc | apply pw_below_drewN | apply below_drew1) | exact HB.out)⟩
    ·replace c12 := Bool.eq_false_iff.mpr c12
     subst c12
     have H1 : ((impl_WordNames.f kj5 t249).bind fun bt253 => (laws_FnNames.l0 kj5 t248 t249 bt253.1 bt253.2 0 0)) = some r := by rw [if_neg (show ¬ (false = true) by decide)] at H; exact H
     clear H
     have H := H1
     clear H1
     replace H := Option.bind_eq_some_iff.mp H
     obtain ⟨⟨t253, t254⟩, A140, H⟩ := H
     replace H : (laws_FnNames.l0 kj5 t248 t249 t253 t254 0 0) = some r := H
     have A14 := Aside0.mk A140
     clear A140
     have H' := Aside0.mk H
     clear H
     go_wp2_with (first | ((with_reducible refine gate_callee (f := 20) rfl ?_); refine goesL_ (some 50) rfl rfl Tryd.func20 (by kernel_rfl) rfl #[.string t249] rfl (by (try simp only [List.map_toArray, List.map_cons, List.map_nil]); first | done | rfl | (simp only [List.length_drop, List.length_take]; rfl)) ?_; (with_reducible refine (impl_WordNames.calls kj5 t249 t253 t254 _ A14.out).mono ?_); rintro e w15 ⟨rfl, hb⟩; refine ⟨_, rfl, ?_⟩; have n0_ := Aside0.mk (below_step (by repeat (first | (with_reducible first | exact HB.out | apply below_alloc | apply pw_below_drewN | apply below_drew1) | exact HB.out)) hb); clear HB; have HB := n0_; clear n0_; (try clear hb); (try clear hb2); (try clear hk); (try clear hi)))
     go_loopg [10, 11] kj5 (fun kq v10 v11 w' => ∃ (x10_2 : Int) (x11_2 : Int), v10 = .int .i64 x10_2 ∧ v11 = .int .i64 x11_2 ∧ Aside0 (laws_FnNames.l0 kq t248 t249 t253 t254 x10_2 x11_2 = some r) ∧ Aside0 (kq ≤ kj5) ∧ Aside0 (Below w.heap.size w w'))
     case atStart => exact ⟨(0), (0), (by first | rfl | (simp; done) | (simp [*]; done)), (by first | rfl | (simp; done) | (simp [*]; done)), H', ⟨Nat.le_refl _⟩, ⟨by repeat (first | (with_reducible first | exact HB.out | apply below_alloc | apply pw_below_drewN | apply below_drew1) | exact HB.out)⟩⟩
     case round =>
      clear H'
      try clear c1
      try clear c2
      try clear c2b0
      try clear c2b1
      try clear p2
      try clear c5
      try clear c10
      try clear c10b0
      try clear c10b1
      try clear c10b2
      try clear c11
      try clear c11b0
      try clear c11b1
      try clear c12
      try clear c13
      try clear c13b0
      try clear c13b1
      try clear c13b2
      try clear p2
      obtain ⟨x10_2, x11_2, rfl, rfl, HA, HK2, HB⟩ := hrel
      cases gk with
      | zero => exact absurd HA.out (by simp [laws_FnNames.l0])
      | succ k2 =>
       have H := HA.out
       clear HA
       simp only [laws_FnNames.l0] at H
       by_cases c16 : x11_2 < (t249.size : Int)
       ·rw [if_pos c16] at H
        have c16b0 : decide (x11_2 < (t249.size : Int)) = true := decide_eq_true c16
        clear c16
        by_cases c17 : 0 ≤ x11_2
        ·rw [if_pos c17] at H
         have c17b0 : decide (0 ≤ x11_2) = true := decide_eq_true c17
         clear c17
         by_cases c19 : (wrap64 ((wrap64 (bt t249 x11_2)) - 97)) = x10_2
         ·rw [if_pos c19] at H
          have c19b0 : ((wrap64 ((wrap64 (bt t249 x11_2)) - 97)) == x10_2) = true := beq_iff_eq.mpr c19
          have c19b1 : ((wrap64 ((wrap64 (bt t249 x11_2)) - 97)) != x10_2) = false := bne_eq_false_iff_eq.mpr c19
          clear c19
          have H' := Aside0.mk H
          clear H
          have p18 : 0 ≤ (x11_2 : Int) := of_decide_eq_true (by first | (with_reducible assumption) | assumption)
          have q18 : x11_2 < (t249.size : Int) := of_decide_eq_true (by first | (with_reducible assumption) | assumption)
          have hx18 := bt_at t249 x11_2
          replace p18 := eq_true p18
          replace q18 := eq_true q18
          go_wp2
          go_roundg k2
          case measure => have := HJ5.out; have := HK2.out; omega
          case rel => exact ⟨(wrap64 (x10_2 + 1)), (wrap64 (x11_2 + 1)), (by first | rfl | (simp; done) | (simp [*]; done)), (by first | rfl | (simp; done) | (simp [*]; done)), H', ⟨by have := HJ5.out; have := HK2.out; omega⟩, ⟨by repeat (first | (with_reducible first | exact HB.out | apply below_alloc | apply pw_below_drewN | apply below_drew1) | exact HB.out)⟩⟩
         ·rw [if_neg c19] at H
          have c19b0 : ((wrap64 ((wrap64 (bt t249 x11_2)) - 97)) == x10_2) = false := beq_eq_false_iff_ne.mpr c19
          have c19b1 : ((wrap64 ((wrap64 (bt t249 x11_2)) - 97)) != x10_2) = true := bne_iff_ne.mpr c19
          by_cases c20 : (wrap64 ((wrap64 (bt t249 x11_2)) - 97)) > x10_2
          ·rw [if_pos c20] at H
           have c20b0 : decide (x10_2 < (wrap64 ((wrap64 (bt t249 x11_2)) - 97))) = true := decide_eq_true c20
           clear c20
           obtain rfl := Option.some.inj H
           have p18 : 0 ≤ (x11_2 : Int) := of_decide_eq_true (by first | (with_reducible assumption) | assumption)
           have q18 : x11_2 < (t249.size : Int) := of_decide_eq_true (by first | (with_reducible assumption) | assumption)
           have hx18 := bt_at t249 x11_2
           replace p18 := eq_true p18
           replace q18 := eq_true q18
           go_wp2
           go_ret
           exact ⟨by first | rfl | (simp [errW_none, errW_some] <;> rfl) | (simp [*, errW_none, errW_some] <;> rfl), by repeat (first | (with_reducible first | exact HB.out | apply below_alloc | apply pw_below_drewN | apply below_drew1) | exact HB.out)⟩
          ·rw [if_neg c20] at H
           have c20b0 : decide (x10_2 < (wrap64 ((wrap64 (bt t249 x11_2)) - 97))) = false := decide_eq_false c20
           clear c20
           have H' := Aside0.mk H
           clear H
           have p18 : 0 ≤ (x11_2 : Int) := of_decide_eq_true (by first | (with_reducible assumption) | assumption)
           have q18 : x11_2 < (t249.size : Int) := of_decide_eq_true (by first | (with_reducible assumption) | assumption)
           have hx18 := bt_at t249 x11_2
           replace p18 := eq_true p18
           replace q18 := eq_true q18
           go_wp2
           go_roundg k2
           case measure => have := HJ5.out; have := HK2.out; omega
           case rel => exact ⟨(x10_2), (wrap64 (x11_2 + 1)), (by first | rfl | (simp; done) | (simp [*]; done)), (by first | rfl | (simp; done) | (simp [*]; done)), H', ⟨by have := HJ5.out; have := HK2.out; omega⟩, ⟨by repeat (first | (with_reducible first | exact HB.out | apply below_alloc | apply pw_below_drewN | apply below_drew1) | exact HB.out)⟩⟩
        ·rw [if_neg c17] at H
         exact absurd H (by simp)
       ·rw [if_neg c16] at H
        have c16b0 : decide (x11_2 < (t249.size : Int)) = false := decide_eq_false c16
        clear c16
        by_cases c21 : t254 = true
        ·subst c21
         have H1 : (if t253.toList = t249.toList then (if 0 < (t249.size : Int) then (if (bt t249 0) = 97 then ((impl_WordSame.f k2 t249 t248).bind fun t255 => (if t255 = true then (some ((wrap64 (2 * x10_2)) == (t248.size : Int))) else (some false))) else (some false)) else (none)) else (some false)) = some r := by rw [if_pos rfl] at H; exact H
         clear H
         have H := H1
         clear H1
         by_cases c22 : t253.toList = t249.toList
         ·rw [if_pos c22] at H
          have c22b0 : (t253.toList == t249.toList) = true := beq_iff_eq.mpr c22
          have c22b1 : (t253.toList != t249.toList) = false := bne_eq_false_iff_eq.mpr c22
          clear c22
          by_cases c23 : 0 < (t249.size : Int)
          ·rw [if_pos c23] at H
           have c23b0 : decide (0 < (t249.size : Int)) = true := decide_eq_true c23
           have c23b1 : decide (0 < t249.size) = true := decide_eq_true (by omega)
           clear c23
           by_cases c25 : (bt t249 0) = 97
           ·rw [if_pos c25] at H
            have c25b0 : ((bt t249 0) == 97) = true := beq_iff_eq.mpr c25
            have c25b1 : ((bt t249 0) != 97) = false := bne_eq_false_iff_eq.mpr c25
            clear c25
            replace H := Option.bind_eq_some_iff.mp H
            obtain ⟨t255, A260, H⟩ := H
            replace H : (if t255 = true then (some ((wrap64 (2 * x10_2)) == (t248.size : Int))) else (some false)) = some r := H
            have A26 := Aside0.mk A260
            clear A260
            by_cases c27 : t255 = true
            ·subst c27
             have H1 : (some ((wrap64 (2 * x10_2)) == (t248.size : Int))) = some r := by rw [if_pos rfl] at H; exact H
             clear H
             have H := H1
             clear H1
             obtain rfl := Option.some.inj H
             have p24 : 0 ≤ (0 : Int) := (by omega)
             have q24 : 0 < t249.size := (by have : (0 : Int) < (t249.size : Int) := of_decide_eq_true (by first | (with_reducible assumption) | assumption); omega)
             have hx24 : ∀ h : 0 < t249.size, ((t249[0]'h).toNat : Int) = bt t249 0 := bt_at t249 0
             clear p24
             have qi24 : (0 < (t249.size : Int)) = True := eq_true (of_decide_eq_true (by first | (with_reducible assumption) | assumption))
             replace q24 := eq_true q24
             go_wp2_with (first | (go_at_call 15; (with_reducible refine (impl_WordSame.calls k2 t249 t248 true _ A26.out).mono ?_); rintro e w28 ⟨rfl, hb⟩; have n0_ := Aside0.mk (below_step (by repeat (first | (with_reducible first | exact HB.out | apply below_alloc | apply pw_below_drewN | apply below_drew1) | exact HB.out)) hb); clear HB; have HB := n0_; clear n0_; (try clear hb); (try clear hb2); (try clear hk); (try clear hi)))
             go_ret
             exact ⟨by first | rfl | (simp [errW_none, errW_some] <;> rfl) | (simp [*, errW_none, errW_some] <;> rfl), by repeat (first | (with_reducible first | exact HB.out | apply below_alloc | apply pw_below_drewN | apply below_drew1) | exact HB.out)⟩
            ·replace c27 := Bool.eq_false_iff.mpr c27
             subst c27
             have H1 : (some false) = some r := by rw [if_neg (show ¬ (false = true) by decide)] at H; exact H
             clear H
             have H := H1
             clear H1
             obtain rfl := Option.some.inj H
             have p24 : 0 ≤ (0 : Int) := (by omega)
             have q24 : 0 < t249.size := (by have : (0 : Int) < (t249.size : Int) := of_decide_eq_true (by first | (with_reducible assumption) | assumption); omega)
             have hx24 : ∀ h : 0 < t249.size, ((t249[0]'h).toNat : Int) = bt t249 0 := bt_at t249 0
             clear p24
             have qi24 : (0 < (t249.size : Int)) = True := eq_true (of_decide_eq_true (by first | (with_reducible assumption) | assumption))
             replace q24 := eq_true q24
             go_wp2_with (first | (go_at_call 15; (with_reducible refine (impl_WordSame.calls k2 t249 t248 false _ A26.out).mono ?_); rintro e w29 ⟨rfl, hb⟩; have n0_ := Aside0.mk (below_step (by repeat (first | (with_reducible first | exact HB.out | apply below_alloc | apply pw_below_drewN | apply below_drew1) | exact HB.out)) hb); clear HB; have HB := n0_; clear n0_; (try clear hb); (try clear hb2); (try clear hk); (try clear hi)))
             go_ret
             exact ⟨by first | rfl | (simp [errW_none, errW_some] <;> rfl) | (simp [*, errW_none, errW_some] <;> rfl), by repeat (first | (with_reducible first | exact HB.out | apply below_alloc | apply pw_below_drewN | apply below_drew1) | exact HB.out)⟩
           ·rw [if_neg c25] at H
            have c25b0 : ((bt t249 0) == 97) = false := beq_eq_false_iff_ne.mpr c25
            have c25b1 : ((bt t249 0) != 97) = true := bne_iff_ne.mpr c25
            obtain rfl := Option.some.inj H
            have p24 : 0 ≤ (0 : Int) := (by omega)
            have q24 : 0 < t249.size := (by have : (0 : Int) < (t249.size : Int) := of_decide_eq_true (by first | (with_reducible assumption) | assumption); omega)
            have hx24 : ∀ h : 0 < t249.size, ((t249[0]'h).toNat : Int) = bt t249 0 := bt_at t249 0
            clear p24
            have qi24 : (0 < (t249.size : Int)) = True := eq_true (of_decide_eq_true (by first | (with_reducible assumption) | assumption))
            replace q24 := eq_true q24
            go_wp2
            go_ret
            exact ⟨by first | rfl | (simp [errW_none, errW_some] <;> rfl) | (simp [*, errW_none, errW_some] <;> rfl), by repeat (first | (with_reducible first | exact HB.out | apply below_alloc | apply pw_below_drewN | apply below_drew1) | exact HB.out)⟩
          ·rw [if_neg c23] at H
           exact absurd H (by simp)
         ·rw [if_neg c22] at H
          have c22b0 : (t253.toList == t249.toList) = false := beq_eq_false_iff_ne.mpr c22
          have c22b1 : (t253.toList != t249.toList) = true := bne_iff_ne.mpr c22
          obtain rfl := Option.some.inj H
          go_wp2
          go_ret
          exact ⟨by first | rfl | (simp [errW_none, errW_some] <;> rfl) | (simp [*, errW_none, errW_some] <;> rfl), by repeat (first | (with_reducible first | exact HB.out | apply below_alloc | apply pw_below_drewN | apply below_drew1) | exact HB.out)⟩
        ·replace c21 := Bool.eq_false_iff.mpr c21
         subst c21
         have H1 : (some false) = some r := by rw [if_neg (show ¬ (false = true) by decide)] at H; exact H
         clear H
         have H := H1
         clear H1
         obtain rfl := Option.some.inj H
         go_wp2
         go_ret
         exact ⟨by first | rfl | (simp [errW_none, errW_some] <;> rfl) | (simp [*, errW_none, errW_some] <;> rfl), by repeat (first | (with_reducible first | exact HB.out | apply below_alloc | apply pw_below_drewN | apply below_drew1) | exact HB.out)⟩

/-- THE ONE PURE STATEMENT of laws_FnNames: yours. -/
def laws_FnNames.Pure : Prop := ∀ (l0 : List Int), l0.length ≤ maxLen → l0.length * 1 ≤ 140737488351232 → (∀ x ∈ l0, (Lit.int .u8 x).wf = true) → ∃ k, laws_FnNames.f k l0 = some true
theorem laws_FnNames.walk (P : laws_FnNames.Pure) (a0 : Option Addr) (len0 cap0 : Nat) (z0 : List Int) (w : World) (w0 : (a0 = none ∧ len0 = 0 ∧ cap0 = 0 ∧ z0 = []) ∨ ∃ x, a0 = some x ∧ len0 ≤ cap0 ∧ cap0 ≤ maxLen ∧ z0.length = cap0 ∧ (∀ i, i < z0.length → w.cell? (x.add i) = some (.int .u8 (z0.getD i 0))) ∧ ∀ n ∈ z0, (Lit.int .u8 n).wf = true) (y0 : len0 * 1 ≤ 140737488351232) :
  Calls Tryd.prog 5 #[.slice a0 len0 cap0] w fun e w' => e = .returned (.bool true) ∧ Below w.heap.size w w' := by
 obtain ⟨l0, rfl, hr0, hm0, hw0, hc0⟩ := ReadsInt.ofRowC w0
 obtain ⟨k, h⟩ := P l0 hm0 y0 hw0
 refine (laws_FnNames.calls k _ _ l0 true w (Kd.C_of_reads (d := (0 : Int)) (h1 := fun _ => rfl) hr0) hc0 h).mono ?_
 rintro e w' ⟨rfl, hd⟩
 exact ⟨rfl, hd⟩

end Go.Proofs.YtpfnchjbbagmdaaDoor.PFnNames
