-- Made by a program of this session (wip/tools) out of the loaded program; not trusted: Lean checks it.
import Derived.Test.YtpfnchjbbagmdaaDoorPFnJoinx0
import Derived.Test.YtpfnchjbbagmdaaDoorPFnJoinx4
import Derived.Test.YtpfnchjbbagmdaaDoorPFnJoinx5
import Derived.Test.YtpfnchjbbagmdaaDoorPFnJoinx6
namespace Go.Proofs.YtpfnchjbbagmdaaDoor.PFnJoin
open Go.RowKit Go.Proofs.YtpfnchjbbagmdaaDoorW.PrintWords Go.Proofs.YtpfnchjbbagmdaaDoorW.PrintLast Go.Proofs.YtpfnchjbbagmdaaDoorW.PrintMore
attribute [local go_sem] max2_int min2_int max_two min_two max_three min_three max_four min_four   -- for this text's walks alone
set_option linter.unusedVariables false
set_option linter.unusedSimpArgs false

/-! ### laws_FnJoin: function 6 -/
def laws_FnJoin.j0 : Nat → ByteArray → ByteArray → ByteArray → Bool → ByteArray → Bool → Bool → Option (Bool)
  | 0, _, _, _, _, _, _, _ => none
  | k + 1, x3, x4, x5, x6, x7, x8, x42 => if x42 = true then (if (x6 == x8) = true then (some (x5.toList == x7.toList)) else (some false)) else ((impl_WordJoin.f k x4 x3).bind fun bt260 => (if bt260.2 = true then ((impl_WordNumber.f k x5).bind fun t262 => ((impl_WordNumber.f k x3).bind fun t263 => ((impl_WordNumber.f k x4).bind fun t264 => (if t262 = (wrap64 ((wrap64 (t263 + t264)) - 2)) then ((impl_WordSided.f k x5).bind fun t265 => ((impl_WordSided.f k x3).bind fun t266 => (if t266 = true then ((impl_WordSided.f k x4).bind fun t267 => (if (t265 == t267) = true then ((impl_WordSame.f k bt260.1 x5).bind fun t268 => (some t268)) else (some false))) else (if (t265 == false) = true then ((impl_WordSame.f k bt260.1 x5).bind fun t269 => (some t269)) else (some false))))) else (some false))))) else (some false)))
def laws_FnJoin.f (k : Nat) (l0 : List Int) : Option (Bool) := if (l0.length : Int) > 1048576 then (some true) else ((spec_DrawWordJoin.f k l0).bind fun bt254 => ((impl_WordJoin.f k bt254.1 bt254.2).bind fun bt256 => ((spec_WordJoin.f k bt254.1 bt254.2).bind fun bt258 => (if (bt256.2 != bt258.2) = true then (laws_FnJoin.j0 k bt254.1 bt254.2 bt256.1 bt256.2 bt258.1 bt258.2 true) else (if bt256.1.toList = bt258.1.toList then (laws_FnJoin.j0 k bt254.1 bt254.2 bt256.1 bt256.2 bt258.1 bt258.2 (!bt256.2)) else (laws_FnJoin.j0 k bt254.1 bt254.2 bt256.1 bt256.2 bt258.1 bt258.2 true))))))
set_option maxHeartbeats 8000000 in
set_option maxRecDepth 100000 in
theorem laws_FnJoin.calls (k : Nat) (A0 : Option Addr) (c0 : Nat) (l0 : List Int) (r : Bool) (w : World) (hr0 : Kd.C (Kd.int .u8) w A0 l0.length l0) (hc0 : l0.length ≤ c0) (h : laws_FnJoin.f k l0 = some r) :
    Calls Tryd.prog 6 #[.slice A0 l0.length c0] w fun e w' => e = .returned (.bool r) ∧ Below w.heap.size w w' := by
 have HR0 := Aside0.mk hr0
 have HC0 := Aside0.mk hc0
 clear hr0 hc0
 have HB := Aside0.mk (Below.refl w.heap.size w)
 have H : (if (l0.length : Int) > 1048576 then (some true) else ((spec_DrawWordJoin.f k l0).bind fun bt254 => ((impl_WordJoin.f k bt254.1 bt254.2).bind fun bt256 => ((spec_WordJoin.f k bt254.1 bt254.2).bind fun bt258 => (if (bt256.2 != bt258.2) = true then (laws_FnJoin.j0 k bt254.1 bt254.2 bt256.1 bt256.2 bt258.1 bt258.2 true) else (if bt256.1.toList = bt258.1.toList then (laws_FnJoin.j0 k bt254.1 bt254.2 bt256.1 bt256.2 bt258.1 bt258.2 (!bt256.2)) else (laws_FnJoin.j0 k bt254.1 bt254.2 bt256.1 bt256.2 bt258.1 bt258.2 true))))))) = some r := h
 clear h
 by_cases c2 : (l0.length : Int) > 1048576
 ·rw [if_pos c2] at H
  have c2b0 : decide (1048576 < (l0.length : Int)) = true := decide_eq_true c2
  have c2b1 : decide (1048576 < l0.length) = true := decide_eq_true (by omega)
  clear c2
  obtain rfl := Option.some.inj H
  go_enter Tryd.func6, Tryd.ntmps6
  go_wp2
  go_ret
  exact ⟨by first | rfl | (simp [errW_none, errW_some] <;> rfl) | (simp [*, errW_none, errW_some] <;> rfl), by repeat (first | (with_reducible first | exact HB.out | apply below_alloc | apply pw_below_drewN | apply below_drew1) | exact HB.out)⟩
 ·rw [if_neg c2] at H
  have c2b0 : decide (1048576 < (l0.length : Int)) = false := decide_eq_false c2
  have c2b1 : decide (1048576 < l0.length) = false := decide_eq_false (by omega)
  clear c2
  replace H := Option.bind_eq_some_iff.mp H
  obtain ⟨⟨t254, t255⟩, A30, H⟩ := H
  replace H : ((impl_WordJoin.f k t254 t255).bind fun bt256 => ((spec_WordJoin.f k t254 t255).bind fun bt258 => (if (bt256.2 != bt258.2) = true then (laws_FnJoin.j0 k t254 t255 bt256.1 bt256.2 bt258.1 bt258.2 true) else (if bt256.1.toList = bt258.1.toList then (laws_FnJoin.j0 k t254 t255 bt256.1 bt256.2 bt258.1 bt258.2 (!bt256.2)) else (laws_FnJoin.j0 k t254 t255 bt256.1 bt256.2 bt258.1 bt258.2 true))))) = some r := H
  have A3 := Aside0.mk A30
  clear A30
  replace H := Option.bind_eq_some_iff.mp H
  obtain ⟨⟨t256, t257⟩, A40, H⟩ := H
  replace H : ((spec_WordJoin.f k t254 t255).bind fun bt258 => (if (t257 != bt258.2) = true then (laws_FnJoin.j0 k t254 t255 t256 t257 bt258.1 bt258.2 true) else (if t256.toList = bt258.1.toList then (laws_FnJoin.j0 k t254 t255 t256 t257 bt258.1 bt258.2 (!t257)) else (laws_FnJoin.j0 k t254 t255 t256 t257 bt258.1 bt258.2 true)))) = some r := H
  have A4 := Aside0.mk A40
  clear A40
  replace H := Option.bind_eq_some_iff.mp H
  obtain ⟨⟨t258, t259⟩, A50, H⟩ := H
  replace H : (if (t257 != t259) = true then (laws_FnJoin.j0 k t254 t255 t256 t257 t258 t259 true) else (if t256.toList = t258.toList then (laws_FnJoin.j0 k t254 t255 t256 t257 t258 t259 (!t257)) else (laws_FnJoin.j0 k t254 t255 t256 t257 t258 t259 true))) = some r := H
  have A5 := Aside0.mk A50
  clear A50
  have HC6 := Aside0.mk H
  clear H
  go_enter Tryd.func6, Tryd.ntmps6
  go_upto_region 6 with (first | ((with_reducible refine gate_callee (f := 22) rfl ?_); refine goesL_ (some 16) rfl rfl Tryd.func22 (by kernel_rfl) rfl #[.slice A0 l0.length c0] rfl (by (try simp only [List.map_toArray, List.map_cons, List.map_nil]); first | done | rfl | (simp only [List.length_drop, List.length_take]; rfl)) ?_; (with_reducible refine (spec_DrawWordJoin.calls k _ _ l0 t254 t255 _ ?side1 ?side2 A3.out).mono ?_); (case side1 => repeat (first | exact HR0.out | (with_reducible refine Kd.C_alloc ?_ _) | (with_reducible refine Kd.C_drewN ?_ _) | (with_reducible refine Kd.C_drew ?_))); (case side2 => exact HC0.out); rintro e w7 ⟨rfl, hb⟩; refine ⟨_, rfl, ?_⟩; have n0_ := Aside0.mk (below_step (by repeat (first | (with_reducible first | exact HB.out | apply below_alloc | apply pw_below_drewN | apply below_drew1) | exact HB.out)) hb); clear HB; have HB := n0_; clear n0_; (try clear hb); (try clear hb2); (try clear hk); (try clear hi)) | ((with_reducible refine gate_callee (f := 23) rfl ?_); refine goesL_ (some 22) rfl rfl Tryd.func23 (by kernel_rfl) rfl #[.string t254, .string t255] rfl (by (try simp only [List.map_toArray, List.map_cons, List.map_nil]); first | done | rfl | (simp only [List.length_drop, List.length_take]; rfl)) ?_; (with_reducible refine (impl_WordJoin.calls k t254 t255 t256 t257 _ A4.out).mono ?_); rintro e w8 ⟨rfl, hb⟩; refine ⟨_, rfl, ?_⟩; have n0_ := Aside0.mk (below_step (by repeat (first | (with_reducible first | exact HB.out | apply below_alloc | apply pw_below_drewN | apply below_drew1) | exact HB.out)) hb); clear HB; have HB := n0_; clear n0_; (try clear hb); (try clear hb2); (try clear hk); (try clear hi)) | ((with_reducible refine gate_callee (f := 24) rfl ?_); refine goesL_ (some 28) rfl rfl Tryd.func24 (by kernel_rfl) rfl #[.string t254, .string t255] rfl (by (try simp only [List.map_toArray, List.map_cons, List.map_nil]); first | done | rfl | (simp only [List.length_drop, List.length_take]; rfl)) ?_; (with_reducible refine (spec_WordJoin.calls k t254 t255 t258 t259 _ A5.out).mono ?_); rintro e w9 ⟨rfl, hb⟩; refine ⟨_, rfl, ?_⟩; have n0_ := Aside0.mk (below_step (by repeat (first | (with_reducible first | exact HB.out | apply below_alloc | apply pw_below_drewN | apply below_drew1) | exact HB.out)) hb); clear HB; have HB := n0_; clear n0_; (try clear hb); (try clear hb2); (try clear hk); (try clear hi)))
  (try simp only [Act.put, List.setIfInBounds_toArray, List.set_cons_zero, List.set_cons_succ])
  go_cut [42] (fun v42 wc => ∃ (kq : Nat) (x42_5 : Bool), v42 = .bool x42_5 ∧ Aside0 (laws_FnJoin.j0 kq t254 t255 t256 t257 t258 t259 x42_5 = some r) ∧ Aside0 (kq ≤ k) ∧ Aside0 (Below w.heap.size w wc))
  case first =>
   have H := HC6.out
   clear HC6
   by_cases c10 : (t257 != t259) = true
   ·rw [if_pos c10] at H
    have c10b0 : (t257 != t259) = true := c10
    (try (have c10b1 : decide (t257 = t259) = false := by simpa using c10))
    (try (have c10b2 : (t257 == t259) = false := by simpa using c10))
    (try (have c10b3 : ¬ (t257 = t259) := by simpa using c10))
    clear c10
    (first | rw [c10b0] | (simp only [i64_w, i32_w]; rw [c10b0]) | skip)
    have H' := Aside0.mk H
    clear H
    go_wp2
    go_meet
    case rel => exact ⟨_, (true), (by first | rfl | (simp; done) | (simp [*]; done)), H', ⟨by first | omega | exact Nat.le_refl _⟩, ⟨by repeat (first | (with_reducible first | exact HB.out | apply below_alloc | apply pw_below_drewN | apply below_drew1) | exact HB.out)⟩⟩
   ·rw [if_neg c10] at H
    have c10b0 : (t257 != t259) = false := by simpa using c10
    (try (have c10b1 : decide (t257 = t259) = true := by simpa using c10))
    (try (have c10b2 : (t257 == t259) = true := by simpa using c10))
    clear c10
    (first | rw [c10b0] | (simp only [i64_w, i32_w]; rw [c10b0]) | skip)
    by_cases c11 : t256.toList = t258.toList
    ·rw [if_pos c11] at H
     have c11b0 : (t256.toList == t258.toList) = true := beq_iff_eq.mpr c11
     have c11b1 : (t256.toList != t258.toList) = false := bne_eq_false_iff_eq.mpr c11
     clear c11
     have H' := Aside0.mk H
     clear H
     go_wp2
     go_meet
     case rel => exact ⟨_, (!t257), (by first | rfl | (simp; done) | (simp [*]; done)), H', ⟨by first | omega | exact Nat.le_refl _⟩, ⟨by repeat (first | (with_reducible first | exact HB.out | apply below_alloc | apply pw_below_drewN | apply below_drew1) | exact HB.out)⟩⟩
    ·rw [if_neg c11] at H
     have c11b0 : (t256.toList == t258.toList) = false := beq_eq_false_iff_ne.mpr c11
     have c11b1 : (t256.toList != t258.toList) = true := bne_iff_ne.mpr c11
     have H' := Aside0.mk H
     clear H
     go_wp2
     go_meet
     case rel => exact ⟨_, (true), (by first | rfl | (simp; done) | (simp [*]; done)), H', ⟨by first | omega | exact Nat.le_refl _⟩, ⟨by repeat (first | (with_reducible first | exact HB.out | apply below_alloc | apply pw_below_drewN | apply below_drew1) | exact HB.out)⟩⟩
  case rest =>
   clear HC6
   try clear c1
   try clear c2
   try clear c2b0
   try clear c2b1
   try clear p2
   try clear c6
   try clear c10
   try clear c10b0
   try clear c10b1
   try clear c10b2
   try clear c11
   try clear c11b0
   try clear c11b1
   obtain ⟨kq, x42_5, rfl, HA, HJ5, HB⟩ := hcut
   cases kq with
   | zero => exact absurd HA.out (by simp [laws_FnJoin.j0])
   | succ kj5 =>
    have H := HA.out
    clear HA
    simp only [laws_FnJoin.j0] at H
    by_cases c12 : x42_5 = true
    ·subst c12
     have H1 : (if (t257 == t259) = true then (some (t256.toList == t258.toList)) else (some false)) = some r := by rw [if_pos rfl] at H; exact H
     clear H
     have H := H1
     clear H1
     by_cases c13 : (t257 == t259) = true
     ·rw [if_pos c13] at H
      have c13b0 : (t257 == t259) = true := c13
      (try (have c13b1 : decide (t257 = t259) = true := by simpa using c13))
      (try (have c13b2 : (t257 == t259) = true := by simpa using c13))
      clear c13
      obtain rfl := Option.some.inj H
      go_wp2
      go_ret
      exact ⟨by first | rfl | (simp [errW_none, errW_some] <;> rfl) | (simp [*, errW_none, errW_some] <;> rfl), by repeat (first | (with_reducible first | exact HB.out | apply below_alloc | apply pw_below_drewN | apply below_drew1) | exact HB.out)⟩
     ·rw [if_neg c13] at H
      have c13b0 : (t257 == t259) = false := by simpa using c13
      (try (have c13b1 : decide (t257 = t259) = false := by simpa using c13))
      (try (have c13b2 : (t257 == t259) = false := by simpa using c13))
      (try (have c13b3 : ¬ (t257 = t259) := by simpa using c13))
      clear c13
      obtain rfl := Option.some.inj H
      go_wp2
      go_ret
      exact ⟨by first | rfl | (simp [errW_none, errW_some] <;> rfl) | (simp [*, errW_none, errW_some] <;> rfl), by repeat (first | (with_reducible first | exact HB.out | apply below_alloc | apply pw_below_drewN | apply below_drew1) | exact HB.out)⟩
    ·replace c12 := Bool.eq_false_iff.mpr c12
     subst c12
     have H1 : ((impl_WordJoin.f kj5 t255 t254).bind fun bt260 => (if bt260.2 = true then ((impl_WordNumber.f kj5 t256).bind fun t262 => ((impl_WordNumber.f kj5 t254).bind fun t263 => ((impl_WordNumber.f kj5 t255).bind fun t264 => (if t262 = (wrap64 ((wrap64 (t263 + t264)) - 2)) then ((impl_WordSided.f kj5 t256).bind fun t265 => ((impl_WordSided.f kj5 t254).bind fun t266 => (if t266 = true then ((impl_WordSided.f kj5 t255).bind fun t267 => (if (t265 == t267) = true then ((impl_WordSame.f kj5 bt260.1 t256).bind fun t268 => (some t268)) else (some false))) else (if (t265 == false) = true then ((impl_WordSame.f kj5 bt260.1 t256).bind fun t269 => (some t269)) else (some false))))) else (some false))))) else (some false))) = some r := by rw [if_neg (show ¬ (false = true) by decide)] at H; exact H
     clear H
     have H := H1
     clear H1
     replace H := Option.bind_eq_some_iff.mp H
     obtain ⟨⟨t260, t261⟩, A140, H⟩ := H
     replace H : (if t261 = true then ((impl_WordNumber.f kj5 t256).bind fun t262 => ((impl_WordNumber.f kj5 t254).bind fun t263 => ((impl_WordNumber.f kj5 t255).bind fun t264 => (if t262 = (wrap64 ((wrap64 (t263 + t264)) - 2)) then ((impl_WordSided.f kj5 t256).bind fun t265 => ((impl_WordSided.f kj5 t254).bind fun t266 => (if t266 = true then ((impl_WordSided.f kj5 t255).bind fun t267 => (if (t265 == t267) = true then ((impl_WordSame.f kj5 t260 t256).bind fun t268 => (some t268)) else (some false))) else (if (t265 == false) = true then ((impl_WordSame.f kj5 t260 t256).bind fun t269 => (some t269)) else (some false))))) else (some false))))) else (some false)) = some r := H
     have A14 := Aside0.mk A140
     clear A140
     by_cases c15 : t261 = true
     ·subst c15
      have H1 : ((impl_WordNumber.f kj5 t256).bind fun t262 => ((impl_WordNumber.f kj5 t254).bind fun t263 => ((impl_WordNumber.f kj5 t255).bind fun t264 => (if t262 = (wrap64 ((wrap64 (t263 + t264)) - 2)) then ((impl_WordSided.f kj5 t256).bind fun t265 => ((impl_WordSided.f kj5 t254).bind fun t266 => (if t266 = true then ((impl_WordSided.f kj5 t255).bind fun t267 => (if (t265 == t267) = true then ((impl_WordSame.f kj5 t260 t256).bind fun t268 => (some t268)) else (some false))) else (if (t265 == false) = true then ((impl_WordSame.f kj5 t260 t256).bind fun t269 => (some t269)) else (some false))))) else (some false))))) = some r := by rw [if_pos rfl] at H; exact H
      clear H
      have H := H1
      clear H1
      replace H := Option.bind_eq_some_iff.mp H
      obtain ⟨t262, A160, H⟩ := H
      replace H : ((impl_WordNumber.f kj5 t254).bind fun t263 => ((impl_WordNumber.f kj5 t255).bind fun t264 => (if t262 = (wrap64 ((wrap64 (t263 + t264)) - 2)) then ((impl_WordSided.f kj5 t256).bind fun t265 => ((impl_WordSided.f kj5 t254).bind fun t266 => (if t266 = true then ((impl_WordSided.f kj5 t255).bind fun t267 => (if (t265 == t267) = true then ((impl_WordSame.f kj5 t260 t256).bind fun t268 => (some t268)) else (some false))) else (if (t265 == false) = true then ((impl_WordSame.f kj5 t260 t256).bind fun t269 => (some t269)) else (some false))))) else (some false)))) = some r := H
      have A16 := Aside0.mk A160
      clear A160
      replace H := Option.bind_eq_some_iff.mp H
      obtain ⟨t263, A170, H⟩ := H
      replace H : ((impl_WordNumber.f kj5 t255).bind fun t264 => (if t262 = (wrap64 ((wrap64 (t263 + t264)) - 2)) then ((impl_WordSided.f kj5 t256).bind fun t265 => ((impl_WordSided.f kj5 t254).bind fun t266 => (if t266 = true then ((impl_WordSided.f kj5 t255).bind fun t267 => (if (t265 == t267) = true then ((impl_WordSame.f kj5 t260 t256).bind fun t268 => (some t268)) else (some false))) else (if (t265 == false) = true then ((impl_WordSame.f kj5 t260 t256).bind fun t269 => (some t269)) else (some false))))) else (some false))) = some r := H
      have A17 := Aside0.mk A170
      clear A170
      replace H := Option.bind_eq_some_iff.mp H
      obtain ⟨t264, A180, H⟩ := H
      replace H : (if t262 = (wrap64 ((wrap64 (t263 + t264)) - 2)) then ((impl_WordSided.f kj5 t256).bind fun t265 => ((impl_WordSided.f kj5 t254).bind fun t266 => (if t266 = true then ((impl_WordSided.f kj5 t255).bind fun t267 => (if (t265 == t267) = true then ((impl_WordSame.f kj5 t260 t256).bind fun t268 => (some t268)) else (some false))) else (if (t265 == false) = true then ((impl_WordSame.f kj5 t260 t256).bind fun t269 => (some t269)) else (some false))))) else (some false)) = some r := H
      have A18 := Aside0.mk A180
      clear A180
      by_cases c19 : t262 = (wrap64 ((wrap64 (t263 + t264)) - 2))
      ·rw [if_pos c19] at H
       have c19b0 : (t262 == (wrap64 ((wrap64 (t263 + t264)) - 2))) = true := beq_iff_eq.mpr c19
       have c19b1 : (t262 != (wrap64 ((wrap64 (t263 + t264)) - 2))) = false := bne_eq_false_iff_eq.mpr c19
       clear c19
       replace H := Option.bind_eq_some_iff.mp H
       obtain ⟨t265, A200, H⟩ := H
       replace H : ((impl_WordSided.f kj5 t254).bind fun t266 => (if t266 = true then ((impl_WordSided.f kj5 t255).bind fun t267 => (if (t265 == t267) = true then ((impl_WordSame.f kj5 t260 t256).bind fun t268 => (some t268)) else (some false))) else (if (t265 == false) = true then ((impl_WordSame.f kj5 t260 t256).bind fun t269 => (some t269)) else (some false)))) = some r := H
       have A20 := Aside0.mk A200
       clear A200
       replace H := Option.bind_eq_some_iff.mp H
       obtain ⟨t266, A210, H⟩ := H
       replace H : (if t266 = true then ((impl_WordSided.f kj5 t255).bind fun t267 => (if (t265 == t267) = true then ((impl_WordSame.f kj5 t260 t256).bind fun t268 => (some t268)) else (some false))) else (if (t265 == false) = true then ((impl_WordSame.f kj5 t260 t256).bind fun t269 => (some t269)) else (some false))) = some r := H
       have A21 := Aside0.mk A210
       clear A210
       by_cases c22 : t266 = true
       ·subst c22
        have H1 : ((impl_WordSided.f kj5 t255).bind fun t267 => (if (t265 == t267) = true then ((impl_WordSame.f kj5 t260 t256).bind fun t268 => (some t268)) else (some false))) = some r := by rw [if_pos rfl] at H; exact H
        clear H
        have H := H1
        clear H1
        replace H := Option.bind_eq_some_iff.mp H
        obtain ⟨t267, A230, H⟩ := H
        replace H : (if (t265 == t267) = true then ((impl_WordSame.f kj5 t260 t256).bind fun t268 => (some t268)) else (some false)) = some r := H
        have A23 := Aside0.mk A230
        clear A230
        by_cases c24 : (t265 == t267) = true
        ·rw [if_pos c24] at H
         have c24b0 : (t265 == t267) = true := c24
         (try (have c24b1 : decide (t265 = t267) = true := by simpa using c24))
         (try (have c24b2 : (t265 == t267) = true := by simpa using c24))
         clear c24
         replace H := Option.bind_eq_some_iff.mp H
         obtain ⟨t268, A250, H⟩ := H
         replace H : (some t268) = some r := H
         have A25 := Aside0.mk A250
         clear A250
         obtain rfl := Option.some.inj H
         go_wp2_with (first | ((with_reducible refine gate_callee (f := 23) rfl ?_); refine goesL_ (some 54) rfl rfl Tryd.func23 (by kernel_rfl) rfl #[.string t255, .string t254] rfl (by (try simp only [List.map_toArray, List.map_cons, List.map_nil]); first | done | rfl | (simp only [List.length_drop, List.length_take]; rfl)) ?_; (with_reducible refine (impl_WordJoin.calls kj5 t255 t254 t260 true _ A14.out).mono ?_); rintro e w26 ⟨rfl, hb⟩; refine ⟨_, rfl, ?_⟩; have n0_ := Aside0.mk (below_step (by repeat (first | (with_reducible first | exact HB.out | apply below_alloc | apply pw_below_drewN | apply below_drew1) | exact HB.out)) hb); clear HB; have HB := n0_; clear n0_; (try clear hb); (try clear hb2); (try clear hk); (try clear hi)) | (go_at_call 25; (with_reducible refine (impl_WordNumber.calls kj5 t256 t262 _ A16.out).mono ?_); rintro e w27 ⟨rfl, hb⟩; have n0_ := Aside0.mk (below_step (by repeat (first | (with_reducible first | exact HB.out | apply below_alloc | apply pw_below_drewN | apply below_drew1) | exact HB.out)) hb); clear HB; have HB := n0_; clear n0_; (try clear hb); (try clear hb2); (try clear hk); (try clear hi)) | (go_at_call 25; (with_reducible refine (impl_WordNumber.calls kj5 t254 t263 _ A17.out).mono ?_); rintro e w28 ⟨rfl, hb⟩; have n0_ := Aside0.mk (below_step (by repeat (first | (with_reducible first | exact HB.out | apply below_alloc | apply pw_below_drewN | apply below_drew1) | exact HB.out)) hb); clear HB; have HB := n0_; clear n0_; (try clear hb); (try clear hb2); (try clear hk); (try clear hi)) | (go_at_call 25; (with_reducible refine (impl_WordNumber.calls kj5 t255 t264 _ A18.out).mono ?_); rintro e w29 ⟨rfl, hb⟩; have n0_ := Aside0.mk (below_step (by repeat (first | (with_reducible first | exact HB.out | apply below_alloc | apply pw_below_drewN | apply below_drew1) | exact HB.out)) hb); clear HB; have HB := n0_; clear n0_; (try clear hb); (try clear hb2); (try clear hk); (try clear hi)) | (go_at_call 26; (with_reducible refine (impl_WordSided.calls kj5 t256 t265 _ A20.out).mono ?_); rintro e w30 ⟨rfl, hb⟩; have n0_ := Aside0.mk (below_step (by repeat (first | (with_reducible first | exact HB.out | apply below_alloc | apply pw_below_drewN | apply below_drew1) | exact HB.out)) hb); clear HB; have HB := n0_; clear n0_; (try clear hb); (try clear hb2); (try clear hk); (try clear hi)) | (go_at_call 26; (with_reducible refine (impl_WordSided.calls kj5 t254 true _ A21.out).mono ?_); rintro e w31 ⟨rfl, hb⟩; have n0_ := Aside0.mk (below_step (by repeat (first | (with_reducible first | exact HB.out | apply below_alloc | apply pw_below_drewN | apply below_drew1) | exact HB.out)) hb); clear HB; have HB := n0_; clear n0_; (try clear hb); (try clear hb2); (try clear hk); (try clear hi)) | (go_at_call 26; (with_reducible refine (impl_WordSided.calls kj5 t255 t267 _ A23.out).mono ?_); rintro e w32 ⟨rfl, hb⟩; have n0_ := Aside0.mk (below_step (by repeat (first | (with_reducible first | exact HB.out | apply below_alloc | apply pw_below_drewN | apply below_drew1) | exact HB.out)) hb); clear HB; have HB := n0_; clear n0_; (try clear hb); (try clear hb2); (try clear hk); (try clear hi)) | (go_at_call 15; (with_reducible refine (impl_WordSame.calls kj5 t260 t256 t268 _ A25.out).mono ?_); rintro e w33 ⟨rfl, hb⟩; have n0_ := Aside0.mk (below_step (by repeat (first | (with_reducible first | exact HB.out | apply below_alloc | apply pw_below_drewN | apply below_drew1) | exact HB.out)) hb); clear HB; have HB := n0_; clear n0_; (try clear hb); (try clear hb2); (try clear hk); (try clear hi)))
         go_ret
         exact ⟨by first | rfl | (simp [errW_none, errW_some] <;> rfl) | (simp [*, errW_none, errW_some] <;> rfl), by repeat (first | (with_reducible first | exact HB.out | apply below_alloc | apply pw_below_drewN | apply below_drew1) | exact HB.out)⟩
        ·rw [if_neg c24] at H
         have c24b0 : (t265 == t267) = false := by simpa using c24
         (try (have c24b1 : decide (t265 = t267) = false := by simpa using c24))
         (try (have c24b2 : (t265 == t267) = false := by simpa using c24))
         (try (have c24b3 : ¬ (t265 = t267) := by simpa using c24))
         clear c24
         obtain rfl := Option.some.inj H
         go_wp2_with (first | ((with_reducible refine gate_callee (f := 23) rfl ?_); refine goesL_ (some 54) rfl rfl Tryd.func23 (by kernel_rfl) rfl #[.string t255, .string t254] rfl (by (try simp only [List.map_toArray, List.map_cons, List.map_nil]); first | done | rfl | (simp only [List.length_drop, List.length_take]; rfl)) ?_; (with_reducible refine (impl_WordJoin.calls kj5 t255 t254 t260 true _ A14.out).mono ?_); rintro e w34 ⟨rfl, hb⟩; refine ⟨_, rfl, ?_⟩; have n0_ := Aside0.mk (below_step (by repeat (first | (with_reducible first | exact HB.out | apply below_alloc | apply pw_below_drewN | apply below_drew1) | exact HB.out)) hb); clear HB; have HB := n0_; clear n0_; (try clear hb); (try clear hb2); (try clear hk); (try clear hi)) | (go_at_call 25; (with_reducible refine (impl_WordNumber.calls kj5 t256 t262 _ A16.out).mono ?_); rintro e w35 ⟨rfl, hb⟩; have n0_ := Aside0.mk (below_step (by repeat (first | (with_reducible first | exact HB.out | apply below_alloc | apply pw_below_drewN | apply below_drew1) | exact HB.out)) hb); clear HB; have HB := n0_; clear n0_; (try clear hb); (try clear hb2); (try clear hk); (try clear hi)) | (go_at_call 25; (with_reducible refine (impl_WordNumber.calls kj5 t254 t263 _ A17.out).mono ?_); rintro e w36 ⟨rfl, hb⟩; have n0_ := Aside0.mk (below_step (by repeat (first | (with_reducible first | exact HB.out | apply below_alloc | apply pw_below_drewN | apply below_drew1) | exact HB.out)) hb); clear HB; have HB := n0_; clear n0_; (try clear hb); (try clear hb2); (try clear hk); (try clear hi)) | (go_at_call 25; (with_reducible refine (impl_WordNumber.calls kj5 t255 t264 _ A18.out).mono ?_); rintro e w37 ⟨rfl, hb⟩; have n0_ := Aside0.mk (below_step (by repeat (first | (with_reducible first | exact HB.out | apply below_alloc | apply pw_below_drewN | apply below_drew1) | exact HB.out)) hb); clear HB; have HB := n0_; clear n0_; (try clear hb); (try clear hb2); (try clear hk); (try clear hi)) | (go_at_call 26; (with_reducible refine (impl_WordSided.calls kj5 t256 t265 _ A20.out).mono ?_); rintro e w38 ⟨rfl, hb⟩; have n0_ := Aside0.mk (below_step (by repeat (first | (with_reducible first | exact HB.out | apply below_alloc | apply pw_below_drewN | apply below_drew1) | exact HB.out)) hb); clear HB; have HB := n0_; clear n0_; (try clear hb); (try clear hb2); (try clear hk); (try clear hi)) | (go_at_call 26; (with_reducible refine (impl_WordSided.calls kj5 t254 true _ A21.out).mono ?_); rintro e w39 ⟨rfl, hb⟩; have n0_ := Aside0.mk (below_step (by repeat (first | (with_reducible first | exact HB.out | apply below_alloc | apply pw_below_drewN | apply below_drew1) | exact HB.out)) hb); clear HB; have HB := n0_; clear n0_; (try clear hb); (try clear hb2); (try clear hk); (try clear hi)) | (go_at_call 26; (with_reducible refine (impl_WordSided.calls kj5 t255 t267 _ A23.out).mono ?_); rintro e w40 ⟨rfl, hb⟩; have n0_ := Aside0.mk (below_step (by repeat (first | (with_reducible first | exact HB.out | apply below_alloc | apply pw_below_drewN | apply below_drew1) | exact HB.out)) hb); clear HB; have HB := n0_; clear n0_; (try clear hb); (try clear hb2); (try clear hk); (try clear hi)))
         go_ret
         exact ⟨by first | rfl | (simp [errW_none, errW_some] <;> rfl) | (simp [*, errW_none, errW_some] <;> rfl), by repeat (first | (with_reducible first | exact HB.out | apply below_alloc | apply pw_below_drewN | apply below_drew1) | exact HB.out)⟩
       ·replace c22 := Bool.eq_false_iff.mpr c22
        subst c22
        have H1 : (if (t265 == false) = true then ((impl_WordSame.f kj5 t260 t256).bind fun t269 => (some t269)) else (some false)) = some r := by rw [if_neg (show ¬ (false = true) by decide)] at H; exact H
        clear H
        have H := H1
        clear H1
        by_cases c41 : (t265 == false) = true
        ·rw [if_pos c41] at H
         have c41b0 : (t265 == false) = true := c41
         (try (have c41b1 : decide (t265 = false) = true := by simpa using c41))
         (try (have c41b2 : (t265 == false) = true := by simpa using c41))
         clear c41
         replace H := Option.bind_eq_some_iff.mp H
         obtain ⟨t269, A420, H⟩ := H
         replace H : (some t269) = some r := H
         have A42 := Aside0.mk A420
         clear A420
         obtain rfl := Option.some.inj H
         go_wp2_with (first | ((with_reducible refine gate_callee (f := 23) rfl ?_); refine goesL_ (some 54) rfl rfl Tryd.func23 (by kernel_rfl) rfl #[.string t255, .string t254] rfl (by (try simp only [List.map_toArray, List.map_cons, List.map_nil]); first | done | rfl | (simp only [List.length_drop, List.length_take]; rfl)) ?_; (with_reducible refine (impl_WordJoin.calls kj5 t255 t254 t260 true _ A14.out).mono ?_); rintro e w43 ⟨rfl, hb⟩; refine ⟨_, rfl, ?_⟩; have n0_ := Aside0.mk (below_step (by repeat (first | (with_reducible first | exact HB.out | apply below_alloc | apply pw_below_drewN | apply below_drew1) | exact HB.out)) hb); clear HB; have HB := n0_; clear n0_; (try clear hb); (try clear hb2); (try clear hk); (try clear hi)) | (go_at_call 25; (with_reducible refine (impl_WordNumber.calls kj5 t256 t262 _ A16.out).mono ?_); rintro e w44 ⟨rfl, hb⟩; have n0_ := Aside0.mk (below_step (by repeat (first | (with_reducible first | exact HB.out | apply below_alloc | apply pw_below_drewN | apply below_drew1) | exact HB.out)) hb); clear HB; have HB := n0_; clear n0_; (try clear hb); (try clear hb2); (try clear hk); (try clear hi)) | (go_at_call 25; (with_reducible refine (impl_WordNumber.calls kj5 t254 t263 _ A17.out).mono ?_); rintro e w45 ⟨rfl, hb⟩; have n0_ := Aside0.mk (below_step (by repeat (first | (with_reducible first | exact HB.out | apply below_alloc | apply pw_below_drewN | apply below_drew1) | exact HB.out)) hb); clear HB; have HB := n0_; clear n0_; (try clear hb); (try clear hb2); (try clear hk); (try clear hi)) | (go_at_call 25; (with_reducible refine (impl_WordNumber.calls kj5 t255 t264 _ A18.out).mono ?_); rintro e w46 ⟨rfl, hb⟩; have n0_ := Aside0.mk (below_step (by repeat (first | (with_reducible first | exact HB.out | apply below_alloc | apply pw_below_drewN | apply below_drew1) | exact HB.out)) hb); clear HB; have HB := n0_; clear n0_; (try clear hb); (try clear hb2); (try clear hk); (try clear hi)) | (go_at_call 26; (with_reducible refine (impl_WordSided.calls kj5 t256 t265 _ A20.out).mono ?_); rintro e w47 ⟨rfl, hb⟩; have n0_ := Aside0.mk (below_step (by repeat (first | (with_reducible first | exact HB.out | apply below_alloc | apply pw_below_drewN | apply below_drew1) | exact HB.out)) hb); clear HB; have HB := n0_; clear n0_; (try clear hb); (try clear hb2); (try clear hk); (try clear hi)) | (go_at_call 26; (with_reducible refine (impl_WordSided.calls kj5 t254 false _ A21.out).mono ?_); rintro e w48 ⟨rfl, hb⟩; have n0_ := Aside0.mk (below_step (by repeat (first | (with_reducible first | exact HB.out | apply below_alloc | apply pw_below_drewN | apply below_drew1) | exact HB.out)) hb); clear HB; have HB := n0_; clear n0_; (try clear hb); (try clear hb2); (try clear hk); (try clear hi)) | (go_at_call 15; (with_reducible refine (impl_WordSame.calls kj5 t260 t256 t269 _ A42.out).mono ?_); rintro e w49 ⟨rfl, hb⟩; have n0_ := Aside0.mk (below_step (by repeat (first | (with_reducible first | exact HB.out | apply below_alloc | apply pw_below_drewN | apply below_drew1) | exact HB.out)) hb); clear HB; have HB := n0_; clear n0_; (try clear hb); (try clear hb2); (try clear hk); (try clear hi)))
         go_ret
         exact ⟨by first | rfl | (simp [errW_none, errW_some] <;> rfl) | (simp [*, errW_none, errW_some] <;> rfl), by repeat (first | (with_reducible first | exact HB.out | apply below_alloc | apply pw_below_drewN | apply below_drew1) | exact HB.out)⟩
        ·rw [if_neg c41] at H
         have c41b0 : (t265 == false) = false := by simpa using c41
         (try (have c41b1 : decide (t265 = false) = false := by simpa using c41))
         (try (have c41b2 : (t265 == false) = false := by simpa using c41))
         (try (have c41b3 : ¬ (t265 = false) := by simpa using c41))
         clear c41
         obtain rfl := Option.some.inj H
         go_wp2_with (first | ((with_reducible refine gate_callee (f := 23) rfl ?_); refine goesL_ (some 54) rfl rfl Tryd.func23 (by kernel_rfl) rfl #[.string t255, .string t254] rfl (by (try simp only [List.map_toArray, List.map_cons, List.map_nil]); first | done | rfl | (simp only [List.length_drop, List.length_take]; rfl)) ?_; (with_reducible refine (impl_WordJoin.calls kj5 t255 t254 t260 true _ A14.out).mono ?_); rintro e w50 ⟨rfl, hb⟩; refine ⟨_, rfl, ?_⟩; have n0_ := Aside0.mk (below_step (by repeat (first | (with_reducible first | exact HB.out | apply below_alloc | apply pw_below_drewN | apply below_drew1) | exact HB.out)) hb); clear HB; have HB := n0_; clear n0_; (try clear hb); (try clear hb2); (try clear hk); (try clear hi)) | (go_at_call 25; (with_reducible refine (impl_WordNumber.calls kj5 t256 t262 _ A16.out).mono ?_); rintro e w51 ⟨rfl, hb⟩; have n0_ := Aside0.mk (below_step (by repeat (first | (with_reducible first | exact HB.out | apply below_alloc | apply pw_below_drewN | apply below_drew1) | exact HB.out)) hb); clear HB; have HB := n0_; clear n0_; (try clear hb); (try clear hb2); (try clear hk); (try clear hi)) | (go_at_call 25; (with_reducible refine (impl_WordNumber.calls kj5 t254 t263 _ A17.out).mono ?_); rintro e w52 ⟨rfl, hb⟩; have n0_ := Aside0.mk (below_step (by repeat (first | (with_reducible first | exact HB.out | apply below_alloc | apply pw_below_drewN | apply below_drew1) | exact HB.out)) hb); clear HB; have HB := n0_; clear n0_; (try clear hb); (try clear hb2); (try clear hk); (try clear hi)) | (go_at_call 25; (with_reducible refine (impl_WordNumber.calls kj5 t255 t264 _ A18.out).mono ?_); rintro e w53 ⟨rfl, hb⟩; have n0_ := Aside0.mk (below_step (by repeat (first | (with_reducible first | exact HB.out | apply below_alloc | apply pw_below_drewN | apply below_drew1) | exact HB.out)) hb); clear HB; have HB := n0_; clear n0_; (try clear hb); (try clear hb2); (try clear hk); (try clear hi)) | (go_at_call 26; (with_reducible refine (impl_WordSided.calls kj5 t256 t265 _ A20.out).mono ?_); rintro e w54 ⟨rfl, hb⟩; have n0_ := Aside0.mk (below_step (by repeat (first | (with_reducible first | exact HB.out | apply below_alloc | apply pw_below_drewN | apply below_drew1) | exact HB.out)) hb); clear HB; have HB := n0_; clear n0_; (try clear hb); (try clear hb2); (try clear hk); (try clear hi)) | (go_at_call 26; (with_reducible refine (impl_WordSided.calls kj5 t254 false _ A21.out).mono ?_); rintro e w55 ⟨rfl, hb⟩; have n0_ := Aside0.mk (below_step (by repeat (first | (with_reducible first | exact HB.out | apply below_alloc | apply pw_below_drewN | apply below_drew1) | exact HB.out)) hb); clear HB; have HB := n0_; clear n0_; (try clear hb); (try clear hb2); (try clear hk); (try clear hi)))
         go_ret
         exact ⟨by first | rfl | (simp [errW_none, errW_some] <;> rfl) | (simp [*, errW_none, errW_some] <;> rfl), by repeat (first | (with_reducible first | exact HB.out | apply below_alloc | apply pw_below_drewN | apply below_drew1) | exact HB.out)⟩
      ·rw [if_neg c19] at H
       have c19b0 : (t262 == (wrap64 ((wrap64 (t263 + t264)) - 2))) = false := beq_eq_false_iff_ne.mpr c19
       have c19b1 : (t262 != (wrap64 ((wrap64 (t263 + t264)) - 2))) = true := bne_iff_ne.mpr c19
       obtain rfl := Option.some.inj H
       go_wp2_with (first | ((with_reducible refine gate_callee (f := 23) rfl ?_); refine goesL_ (some 54) rfl rfl Tryd.func23 (by kernel_rfl) rfl #[.string t255, .string t254] rfl (by (try simp only [List.map_toArray, List.map_cons, List.map_nil]); first | done | rfl | (simp only [List.length_drop, List.length_take]; rfl)) ?_; (with_reducible refine (impl_WordJoin.calls kj5 t255 t254 t260 true _ A14.out).mono ?_); rintro e w56 ⟨rfl, hb⟩; refine ⟨_, rfl, ?_⟩; have n0_ := Aside0.mk (below_step (by repeat (first | (with_reducible first | exact HB.out | apply below_alloc | apply pw_below_drewN | apply below_drew1) | exact HB.out)) hb); clear HB; have HB := n0_; clear n0_; (try clear hb); (try clear hb2); (try clear hk); (try clear hi)) | (go_at_call 25; (with_reducible refine (impl_WordNumber.calls kj5 t256 t262 _ A16.out).mono ?_); rintro e w57 ⟨rfl, hb⟩; have n0_ := Aside0.mk (below_step (by repeat (first | (with_reducible first | exact HB.out | apply below_alloc | apply pw_below_drewN | apply below_drew1) | exact HB.out)) hb); clear HB; have HB := n0_; clear n0_; (try clear hb); (try clear hb2); (try clear hk); (try clear hi)) | (go_at_call 25; (with_reducible refine (impl_WordNumber.calls kj5 t254 t263 _ A17.out).mono ?_); rintro e w58 ⟨rfl, hb⟩; have n0_ := Aside0.mk (below_step (by repeat (first | (with_reducible first | exact HB.out | apply below_alloc | apply pw_below_drewN | apply below_drew1) | exact HB.out)) hb); clear HB; have HB := n0_; clear n0_; (try clear hb); (try clear hb2); (try clear hk); (try clear hi)) | (go_at_call 25; (with_reducible refine (impl_WordNumber.calls kj5 t255 t264 _ A18.out).mono ?_); rintro e w59 ⟨rfl, hb⟩; have n0_ := Aside0.mk (below_step (by repeat (first | (with_reducible first | exact HB.out | apply below_alloc | apply pw_below_drewN | apply below_drew1) | exact HB.out)) hb); clear HB; have HB := n0_; clear n0_; (try clear hb); (try clear hb2); (try clear hk); (try clear hi)))
       go_ret
       exact ⟨by first | rfl | (simp [errW_none, errW_some] <;> rfl) | (simp [*, errW_none, errW_some] <;> rfl), by repeat (first | (with_reducible first | exact HB.out | apply below_alloc | apply pw_below_drewN | apply below_drew1) | exact HB.out)⟩
     ·replace c15 := Bool.eq_false_iff.mpr c15
      subst c15
      have H1 : (some false) = some r := by rw [if_neg (show ¬ (false = true) by decide)] at H; exact H
      clear H
      have H := H1
      clear H1
      obtain rfl := Option.some.inj H
      go_wp2_with (first | ((with_reducible refine gate_callee (f := 23) rfl ?_); refine goesL_ (some 54) rfl rfl Tryd.func23 (by kernel_rfl) rfl #[.string t255, .string t254] rfl (by (try simp only [List.map_toArray, List.map_cons, List.map_nil]); first | done | rfl | (simp only [List.length_drop, List.length_take]; rfl)) ?_; (with_reducible refine (impl_WordJoin.calls kj5 t255 t254 t260 false _ A14.out).mono ?_); rintro e w60 ⟨rfl, hb⟩; refine ⟨_, rfl, ?_⟩; have n0_ := Aside0.mk (below_step (by repeat (first | (with_reducible first | exact HB.out | apply below_alloc | apply pw_below_drewN | apply below_drew1) | exact HB.out)) hb); clear HB; have HB := n0_; clear n0_; (try clear hb); (try clear hb2); (try clear hk); (try clear hi)))
      go_ret
      exact ⟨by first | rfl | (simp [errW_none, errW_some] <;> rfl) | (simp [*, errW_none, errW_some] <;> rfl), by repeat (first | (with_reducible first | exact HB.out | apply below_alloc | apply pw_below_drewN | apply below_drew1) | exact HB.out)⟩

/-- THE ONE PURE STATEMENT of laws_FnJoin: yours. -/
def laws_FnJoin.Pure : Prop := ∀ (l0 : List Int), l0.length ≤ maxLen → l0.length * 1 ≤ 140737488351232 → (∀ x ∈ l0, (Lit.int .u8 x).wf = true) → ∃ k, laws_FnJoin.f k l0 = some true
theorem laws_FnJoin.walk (P : laws_FnJoin.Pure) (a0 : Option Addr) (len0 cap0 : Nat) (z0 : List Int) (w : World) (w0 : (a0 = none ∧ len0 = 0 ∧ cap0 = 0 ∧ z0 = []) ∨ ∃ x, a0 = some x ∧ len0 ≤ cap0 ∧ cap0 ≤ maxLen ∧ z0.length = cap0 ∧ (∀ i, i < z0.length → w.cell? (x.add i) = some (.int .u8 (z0.getD i 0))) ∧ ∀ n ∈ z0, (Lit.int .u8 n).wf = true) (y0 : len0 * 1 ≤ 140737488351232) :
  Calls Tryd.prog 6 #[.slice a0 len0 cap0] w fun e w' => e = .returned (.bool true) ∧ Below w.heap.size w w' := by
 obtain ⟨l0, rfl, hr0, hm0, hw0, hc0⟩ := ReadsInt.ofRowC w0
 obtain ⟨k, h⟩ := P l0 hm0 y0 hw0
 refine (laws_FnJoin.calls k _ _ l0 true w (Kd.C_of_reads (d := (0 : Int)) (h1 := fun _ => rfl) hr0) hc0 h).mono ?_
 rintro e w' ⟨rfl, hd⟩
 exact ⟨rfl, hd⟩

end Go.Proofs.YtpfnchjbbagmdaaDoor.PFnJoin
