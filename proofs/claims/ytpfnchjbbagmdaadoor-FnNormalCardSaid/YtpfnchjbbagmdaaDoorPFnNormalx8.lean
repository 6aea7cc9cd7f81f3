-- Made by a program of this session (wip/tools) out of the loaded program; not trusted: Lean checks it.
import Derived.Test.YtpfnchjbbagmdaaDoorPFnNormalx0
import Derived.Test.YtpfnchjbbagmdaaDoorPFnNormalx4
import Derived.Test.YtpfnchjbbagmdaaDoorPFnNormalx5
import Derived.Test.YtpfnchjbbagmdaaDoorPFnNormalx7
namespace Go.Proofs.YtpfnchjbbagmdaaDoor.PFnNormal
open Go.RowKit Go.Proofs.YtpfnchjbbagmdaaDoorW.PrintWords Go.Proofs.YtpfnchjbbagmdaaDoorW.PrintLast Go.Proofs.YtpfnchjbbagmdaaDoorW.PrintMore
attribute [local go_sem] max2_int min2_int max_two min_two max_three min_three max_four min_four   -- for this text's walks alone
set_option linter.unusedVariables false
set_option linter.unusedSimpArgs false

/-! ### spec_WordNormal: function 34 -/
mutual
def spec_WordNormal.j0 : Nat → ByteArray → ByteArray → Int → Bool → Option (ByteArray × Bool)
  | 0, _, _, _, _ => none
  | k + 1, x0, x4, x5, x16 => if x16 = true then (some ((⟨#[]⟩ : ByteArray), false)) else (if x5 = 0 then (some ((⟨#[97, 65]⟩ : ByteArray), true)) else (spec_WordNormal.l0 k x0 x4 x5 0))
def spec_WordNormal.l0 : Nat → ByteArray → ByteArray → Int → Int → Option (ByteArray × Bool)
  | 0, _, _, _, _ => none
  | k + 1, x0, x4, x5, x6 => if x6 < x5 then ((spec_WordSided.f k x0).bind fun t269 => (if t269 = true then (if (Int.tmod x6 2) = 1 then ((spec_l8Name.f (wrap64 (x6 - 1)) true).bind fun t270 => (if x4.size + t270.size ≤ 9223372036854775807 then ((spec_l8Name.f x6 true).bind fun t271 => (if (x4 ++ t270).size + t271.size ≤ 9223372036854775807 then ((spec_l8Name.f (wrap64 (x6 - 1)) false).bind fun t272 => (if ((x4 ++ t270) ++ t271).size + t272.size ≤ 9223372036854775807 then ((spec_l8Name.f x6 false).bind fun t273 => (if (((x4 ++ t270) ++ t271) ++ t272).size + t273.size ≤ 9223372036854775807 then (spec_WordNormal.l0 k x0 ((((x4 ++ t270) ++ t271) ++ t272) ++ t273) x5 (wrap64 (x6 + 1))) else (none))) else (none))) else (none))) else (none))) else (spec_WordNormal.l0 k x0 x4 x5 (wrap64 (x6 + 1)))) else ((spec_l8Name.f x6 true).bind fun t274 => (if x4.size + t274.size ≤ 9223372036854775807 then ((spec_l8Name.f x6 true).bind fun t275 => (if (x4 ++ t274).size + t275.size ≤ 9223372036854775807 then (spec_WordNormal.l0 k x0 ((x4 ++ t274) ++ t275) x5 (wrap64 (x6 + 1))) else (none))) else (none))))) else (some (x4, true))
end
def spec_WordNormal.f (k : Nat) (a0 : ByteArray) : Option (ByteArray × Bool) := (spec_WordNumber.f k a0).bind fun t267 => ((spec_WordValid.f k a0).bind fun t268 => (if t268 = true then (spec_WordNormal.j0 k a0 (⟨#[]⟩ : ByteArray) (wrap64 (2 - t267)) (decide ((wrap64 (2 - t267)) > 5))) else (spec_WordNormal.j0 k a0 (⟨#[]⟩ : ByteArray) (wrap64 (2 - t267)) true)))
set_option maxHeartbeats 8000000 in
set_option maxRecDepth 100000 in
theorem spec_WordNormal.calls (k : Nat) (a0 : ByteArray) (r1 : ByteArray) (r2 : Bool) (w : World) (h : spec_WordNormal.f k a0 = some (r1, r2)) :
    Calls Tryd.prog 34 #[.string a0] w fun e w' => e = .returned (.tuple #[.string r1, .bool r2]) ∧ Below w.heap.size w w' := by
 have HB := Aside0.mk (Below.refl w.heap.size w)
 have H : ((spec_WordNumber.f k a0).bind fun t267 => ((spec_WordValid.f k a0).bind fun t268 => (if t268 = true then (spec_WordNormal.j0 k a0 (⟨#[]⟩ : ByteArray) (wrap64 (2 - t267)) (decide ((wrap64 (2 - t267)) > 5))) else (spec_WordNormal.j0 k a0 (⟨#[]⟩ : ByteArray) (wrap64 (2 - t267)) true)))) = some (r1, r2) := h
 clear h
 replace H := Option.bind_eq_some_iff.mp H
 obtain ⟨t267, A20, H⟩ := H
 replace H : ((spec_WordValid.f k a0).bind fun t268 => (if t268 = true then (spec_WordNormal.j0 k a0 (⟨#[]⟩ : ByteArray) (wrap64 (2 - t267)) (decide ((wrap64 (2 - t267)) > 5))) else (spec_WordNormal.j0 k a0 (⟨#[]⟩ : ByteArray) (wrap64 (2 - t267)) true))) = some (r1, r2) := H
 have A2 := Aside0.mk A20
 clear A20
 have HC3 := Aside0.mk H
 clear H
 go_enter Tryd.func34, Tryd.ntmps34
 go_upto_region 3 with (first | ((with_reducible refine gate_callee (f := 56) rfl ?_); refine goesL_ (some 8) rfl rfl Tryd.func56 (by kernel_rfl) rfl #[.string a0] rfl (by (try simp only [List.map_toArray, List.map_cons, List.map_nil]); first | done | rfl | (simp only [List.length_drop, List.length_take]; rfl)) ?_; (with_reducible refine (spec_WordNumber.calls k a0 t267 _ A2.out).mono ?_); rintro e w4 ⟨rfl, hb⟩; refine ⟨_, rfl, ?_⟩; have n0_ := Aside0.mk (below_step (by repeat (first | (with_reducible first | exact HB.out | apply below_alloc | apply pw_below_drewN | apply below_drew1) | exact HB.out)) hb); clear HB; have HB := n0_; clear n0_; (try clear hb); (try clear hb2); (try clear hk); (try clear hi)))
 (try simp only [Act.put, List.setIfInBounds_toArray, List.set_cons_zero, List.set_cons_succ])
 go_cut [16] (fun v16 wc => ∃ (kq : Nat) (x16_2 : Bool), v16 = .bool x16_2 ∧ Aside0 (spec_WordNormal.j0 kq a0 (⟨#[]⟩ : ByteArray) (wrap64 (2 - t267)) x16_2 = some (r1, r2)) ∧ Aside0 (kq ≤ k) ∧ Aside0 (Below w.heap.size w wc))
 case first =>
  have H := HC3.out
  clear HC3
  replace H := Option.bind_eq_some_iff.mp H
  obtain ⟨t268, A50, H⟩ := H
  replace H : (if t268 = true then (spec_WordNormal.j0 k a0 (⟨#[]⟩ : ByteArray) (wrap64 (2 - t267)) (decide ((wrap64 (2 - t267)) > 5))) else (spec_WordNormal.j0 k a0 (⟨#[]⟩ : ByteArray) (wrap64 (2 - t267)) true)) = some (r1, r2) := H
  have A5 := Aside0.mk A50
  clear A50
  by_cases c6 : t268 = true
  ·subst c6
   have H1 : (spec_WordNormal.j0 k a0 (⟨#[]⟩ : ByteArray) (wrap64 (2 - t267)) (decide ((wrap64 (2 - t267)) > 5))) = some (r1, r2) := by rw [if_pos rfl] at H; exact H
   clear H
   have H := H1
   clear H1
   have H' := Aside0.mk H
   clear H
   go_wp2_with (first | ((with_reducible refine gate_callee (f := 42) rfl ?_); refine goesL_ (some 11) rfl rfl Tryd.func42 (by kernel_rfl) rfl #[.string a0] rfl (by (try simp only [List.map_toArray, List.map_cons, List.map_nil]); first | done | rfl | (simp only [List.length_drop, List.length_take]; rfl)) ?_; (with_reducible refine (spec_WordValid.calls k a0 true _ A5.out).mono ?_); rintro e w' ⟨rfl, ⟨nd, rfl⟩⟩; refine ⟨_, rfl, ?_⟩))
   go_meet
   case rel => exact ⟨_, (decide ((wrap64 (2 - t267)) > 5)), (by first | rfl | (simp; done) | (simp [*]; done)), H', ⟨by first | omega | exact Nat.le_refl _⟩, ⟨by repeat (first | (with_reducible first | exact HB.out | apply below_alloc | apply pw_below_drewN | apply below_drew1) | exact HB.out)⟩⟩
  ·replace c6 := Bool.eq_false_iff.mpr c6
   subst c6
   have H1 : (spec_WordNormal.j0 k a0 (⟨#[]⟩ : ByteArray) (wrap64 (2 - t267)) true) = some (r1, r2) := by rw [if_neg (show ¬ (false = true) by decide)] at H; exact H
   clear H
   have H := H1
   clear H1
   have H' := Aside0.mk H
   clear H
   go_wp2_with (first | ((with_reducible refine gate_callee (f := 42) rfl ?_); refine goesL_ (some 11) rfl rfl Tryd.func42 (by kernel_rfl) rfl #[.string a0] rfl (by (try simp only [List.map_toArray, List.map_cons, List.map_nil]); first | done | rfl | (simp only [List.length_drop, List.length_take]; rfl)) ?_; (with_reducible refine (spec_WordValid.calls k a0 false _ A5.out).mono ?_); rintro e w' ⟨rfl, ⟨nd, rfl⟩⟩; refine ⟨_, rfl, ?_⟩))
   go_meet
   case rel => exact ⟨_, (true), (by first | rfl | (simp; done) | (simp [*]; done)), H', ⟨by first | omega | exact Nat.le_refl _⟩, ⟨by repeat (first | (with_reducible first | exact HB.out | apply below_alloc | apply pw_below_drewN | apply below_drew1) | exact HB.out)⟩⟩
 case rest =>
  clear HC3
  try clear p2
  try clear c3
  try clear c4
  try clear c5
  try clear c6
  try clear p6
  obtain ⟨kq, x16_2, rfl, HA, HJ2, HB⟩ := hcut
  cases kq with
  | zero => exact absurd HA.out (by simp [spec_WordNormal.j0])
  | succ kj2 =>
   have H := HA.out
   clear HA
   simp only [spec_WordNormal.j0] at H
   by_cases c7 : x16_2 = true
   ·subst c7
    have H1 : (some ((⟨#[]⟩ : ByteArray), false)) = some (r1, r2) := by rw [if_pos rfl] at H; exact H
    clear H
    have H := H1
    clear H1
    simp only [Option.some.injEq, Prod.mk.injEq] at H
    obtain ⟨rfl, rfl⟩ := H
    go_wp2
    go_ret2
    exact ⟨by first | rfl | (simp [errW_none, errW_some] <;> rfl) | (simp [*, errW_none, errW_some] <;> rfl), by repeat (first | (with_reducible first | exact HB.out | apply below_alloc | apply pw_below_drewN | apply below_drew1) | exact HB.out)⟩
   ·replace c7 := Bool.eq_false_iff.mpr c7
    subst c7
    have H1 : (if (wrap64 (2 - t267)) = 0 then (some ((⟨#[97, 65]⟩ : ByteArray), true)) else (spec_WordNormal.l0 kj2 a0 (⟨#[]⟩ : ByteArray) (wrap64 (2 - t267)) 0)) = some (r1, r2) := by rw [if_neg (show ¬ (false = true) by decide)] at H; exact H
    clear H
    have H := H1
    clear H1
    by_cases c8 : (wrap64 (2 - t267)) = 0
    ·rw [if_pos c8] at H
     have c8b0 : ((wrap64 (2 - t267)) == 0) = true := beq_iff_eq.mpr c8
     have c8b1 : ((wrap64 (2 - t267)) != 0) = false := bne_eq_false_iff_eq.mpr c8
     clear c8
     simp only [Option.some.injEq, Prod.mk.injEq] at H
     obtain ⟨rfl, rfl⟩ := H
     go_wp2
     go_ret2
     exact ⟨by first | rfl | (simp [errW_none, errW_some] <;> rfl) | (simp [*, errW_none, errW_some] <;> rfl), by repeat (first | (with_reducible first | exact HB.out | apply below_alloc | apply pw_below_drewN | apply below_drew1) | exact HB.out)⟩
    ·rw [if_neg c8] at H
     have c8b0 : ((wrap64 (2 - t267)) == 0) = false := beq_eq_false_iff_ne.mpr c8
     have c8b1 : ((wrap64 (2 - t267)) != 0) = true := bne_iff_ne.mpr c8
     have H' := Aside0.mk H
     clear H
     go_wp2
     go_loopg [4, 6] kj2 (fun kq v4 v6 w' => ∃ (x4_2 : ByteArray) (x6_2 : Int), v4 = .string x4_2 ∧ v6 = .int .i64 x6_2 ∧ Aside0 (spec_WordNormal.l0 kq a0 x4_2 (wrap64 (2 - t267)) x6_2 = some (r1, r2)) ∧ Aside0 (kq ≤ kj2) ∧ Aside0 (Below w.heap.size w w'))
     case atStart => exact ⟨((⟨#[]⟩ : ByteArray)), (0), (by first | rfl | (simp; done) | (simp [*]; done)), (by first | rfl | (simp; done) | (simp [*]; done)), H', ⟨Nat.le_refl _⟩, ⟨by repeat (first | (with_reducible first | exact HB.out | apply below_alloc | apply pw_below_drewN | apply below_drew1) | exact HB.out)⟩⟩
     case round =>
      clear H'
      try clear p2
      try clear c3
      try clear c4
      try clear c5
      try clear c6
      try clear p6
      try clear c7
      try clear c8
      try clear c8b0
      try clear c8b1
      try clear p2
      try clear p6
      obtain ⟨x4_2, x6_2, rfl, rfl, HA, HK2, HB⟩ := hrel
      cases gk with
      | zero => exact absurd HA.out (by simp [spec_WordNormal.l0])
      | succ k2 =>
       have H := HA.out
       clear HA
       simp only [spec_WordNormal.l0] at H
       by_cases c9 : x6_2 < (wrap64 (2 - t267))
       ·rw [if_pos c9] at H
        have c9b0 : decide (x6_2 < (wrap64 (2 - t267))) = true := decide_eq_true c9
        clear c9
        replace H := Option.bind_eq_some_iff.mp H
        obtain ⟨t269, A100, H⟩ := H
        replace H : (if t269 = true then (if (Int.tmod x6_2 2) = 1 then ((spec_l8Name.f (wrap64 (x6_2 - 1)) true).bind fun t270 => (if x4_2.size + t270.size ≤ 9223372036854775807 then ((spec_l8Name.f x6_2 true).bind fun t271 => (if (x4_2 ++ t270).size + t271.size ≤ 9223372036854775807 then ((spec_l8Name.f (wrap64 (x6_2 - 1)) false).bind fun t272 => (if ((x4_2 ++ t270) ++ t271).size + t272.size ≤ 9223372036854775807 then ((spec_l8Name.f x6_2 false).bind fun t273 => (if (((x4_2 ++ t270) ++ t271) ++ t272).size + t273.size ≤ 9223372036854775807 then (spec_WordNormal.l0 k2 a0 ((((x4_2 ++ t270) ++ t271) ++ t272) ++ t273) (wrap64 (2 - t267)) (wrap64 (x6_2 + 1))) else (none))) else (none))) else (none))) else (none))) else (spec_WordNormal.l0 k2 a0 x4_2 (wrap64 (2 - t267)) (wrap64 (x6_2 + 1)))) else ((spec_l8Name.f x6_2 true).bind fun t274 => (if x4_2.size + t274.size ≤ 9223372036854775807 then ((spec_l8Name.f x6_2 true).bind fun t275 => (if (x4_2 ++ t274).size + t275.size ≤ 9223372036854775807 then (spec_WordNormal.l0 k2 a0 ((x4_2 ++ t274) ++ t275) (wrap64 (2 - t267)) (wrap64 (x6_2 + 1))) else (none))) else (none)))) = some (r1, r2) := H
        have A10 := Aside0.mk A100
        clear A100
        by_cases c11 : t269 = true
        ·subst c11
         have H1 : (if (Int.tmod x6_2 2) = 1 then ((spec_l8Name.f (wrap64 (x6_2 - 1)) true).bind fun t270 => (if x4_2.size + t270.size ≤ 9223372036854775807 then ((spec_l8Name.f x6_2 true).bind fun t271 => (if (x4_2 ++ t270).size + t271.size ≤ 9223372036854775807 then ((spec_l8Name.f (wrap64 (x6_2 - 1)) false).bind fun t272 => (if ((x4_2 ++ t270) ++ t271).size + t272.size ≤ 9223372036854775807 then ((spec_l8Name.f x6_2 false).bind fun t273 => (if (((x4_2 ++ t270) ++ t271) ++ t272).size + t273.size ≤ 9223372036854775807 then (spec_WordNormal.l0 k2 a0 ((((x4_2 ++ t270) ++ t271) ++ t272) ++ t273) (wrap64 (2 - t267)) (wrap64 (x6_2 + 1))) else (none))) else (none))) else (none))) else (none))) else (spec_WordNormal.l0 k2 a0 x4_2 (wrap64 (2 - t267)) (wrap64 (x6_2 + 1)))) = some (r1, r2) := by rw [if_pos rfl] at H; exact H
         clear H
         have H := H1
         clear H1
         by_cases c12 : (Int.tmod x6_2 2) = 1
         ·rw [if_pos c12] at H
          have c12b0 : ((Int.tmod x6_2 2) == 1) = true := beq_iff_eq.mpr c12
          have c12b1 : ((Int.tmod x6_2 2) != 1) = false := bne_eq_false_iff_eq.mpr c12
          clear c12
          replace H := Option.bind_eq_some_iff.mp H
          obtain ⟨t270, A130, H⟩ := H
          replace H : (if x4_2.size + t270.size ≤ 9223372036854775807 then ((spec_l8Name.f x6_2 true).bind fun t271 => (if (x4_2 ++ t270).size + t271.size ≤ 9223372036854775807 then ((spec_l8Name.f (wrap64 (x6_2 - 1)) false).bind fun t272 => (if ((x4_2 ++ t270) ++ t271).size + t272.size ≤ 9223372036854775807 then ((spec_l8Name.f x6_2 false).bind fun t273 => (if (((x4_2 ++ t270) ++ t271) ++ t272).size + t273.size ≤ 9223372036854775807 then (spec_WordNormal.l0 k2 a0 ((((x4_2 ++ t270) ++ t271) ++ t272) ++ t273) (wrap64 (2 - t267)) (wrap64 (x6_2 + 1))) else (none))) else (none))) else (none))) else (none)) = some (r1, r2) := H
          have A13 := Aside0.mk A130
          clear A130
          by_cases c14 : x4_2.size + t270.size ≤ 9223372036854775807
          ·rw [if_pos c14] at H
           have c14b0 := eq_true c14
           have c14b1 : decide (x4_2.size + t270.size ≤ 9223372036854775807) = true := decide_eq_true c14
           try have c14b2 : (9223372036854775807 < x4_2.size + t270.size) = False := eq_false (Nat.not_lt.2 c14)
           obtain ⟨zs15, hzs15⟩ : ∃ j_ : ByteArray, (x4_2 ++ t270) = j_ := ⟨_, rfl⟩
           replace H : ((spec_l8Name.f x6_2 true).bind fun t271 => (if zs15.size + t271.size ≤ 9223372036854775807 then ((spec_l8Name.f (wrap64 (x6_2 - 1)) false).bind fun t272 => (if (zs15 ++ t271).size + t272.size ≤ 9223372036854775807 then ((spec_l8Name.f x6_2 false).bind fun t273 => (if ((zs15 ++ t271) ++ t272).size + t273.size ≤ 9223372036854775807 then (spec_WordNormal.l0 k2 a0 (((zs15 ++ t271) ++ t272) ++ t273) (wrap64 (2 - t267)) (wrap64 (x6_2 + 1))) else (none))) else (none))) else (none))) = some (r1, r2) := by first | (rw [hzs15] at H; exact H) | (simp only [hzs15] at H ⊢; exact H) | exact H
           (try rw [hzs15] at A10)
           (try rw [hzs15] at A13)
           replace H := Option.bind_eq_some_iff.mp H
           obtain ⟨t271, A160, H⟩ := H
           replace H : (if zs15.size + t271.size ≤ 9223372036854775807 then ((spec_l8Name.f (wrap64 (x6_2 - 1)) false).bind fun t272 => (if (zs15 ++ t271).size + t272.size ≤ 9223372036854775807 then ((spec_l8Name.f x6_2 false).bind fun t273 => (if ((zs15 ++ t271) ++ t272).size + t273.size ≤ 9223372036854775807 then (spec_WordNormal.l0 k2 a0 (((zs15 ++ t271) ++ t272) ++ t273) (wrap64 (2 - t267)) (wrap64 (x6_2 + 1))) else (none))) else (none))) else (none)) = some (r1, r2) := H
           have A16 := Aside0.mk A160
           clear A160
           by_cases c17 : zs15.size + t271.size ≤ 9223372036854775807
           ·rw [if_pos c17] at H
            have c17b0 := eq_true c17
            have c17b1 : decide (zs15.size + t271.size ≤ 9223372036854775807) = true := decide_eq_true c17
            try have c17b2 : (9223372036854775807 < zs15.size + t271.size) = False := eq_false (Nat.not_lt.2 c17)
            obtain ⟨zs18, hzs18⟩ : ∃ j_ : ByteArray, (zs15 ++ t271) = j_ := ⟨_, rfl⟩
            replace H : ((spec_l8Name.f (wrap64 (x6_2 - 1)) false).bind fun t272 => (if zs18.size + t272.size ≤ 9223372036854775807 then ((spec_l8Name.f x6_2 false).bind fun t273 => (if (zs18 ++ t272).size + t273.size ≤ 9223372036854775807 then (spec_WordNormal.l0 k2 a0 ((zs18 ++ t272) ++ t273) (wrap64 (2 - t267)) (wrap64 (x6_2 + 1))) else (none))) else (none))) = some (r1, r2) := by first | (rw [hzs18] at H; exact H) | (simp only [hzs18] at H ⊢; exact H) | exact H
            (try rw [hzs18] at A10)
            (try rw [hzs18] at A13)
            (try rw [hzs18] at A16)
            replace H := Option.bind_eq_some_iff.mp H
            obtain ⟨t272, A190, H⟩ := H
            replace H : (if zs18.size + t272.size ≤ 9223372036854775807 then ((spec_l8Name.f x6_2 false).bind fun t273 => (if (zs18 ++ t272).size + t273.size ≤ 9223372036854775807 then (spec_WordNormal.l0 k2 a0 ((zs18 ++ t272) ++ t273) (wrap64 (2 - t267)) (wrap64 (x6_2 + 1))) else (none))) else (none)) = some (r1, r2) := H
            have A19 := Aside0.mk A190
            clear A190
            by_cases c20 : zs18.size + t272.size ≤ 9223372036854775807
            ·rw [if_pos c20] at H
             have c20b0 := eq_true c20
             have c20b1 : decide (zs18.size + t272.size ≤ 9223372036854775807) = true := decide_eq_true c20
             try have c20b2 : (9223372036854775807 < zs18.size + t272.size) = False := eq_false (Nat.not_lt.2 c20)
             obtain ⟨zs21, hzs21⟩ : ∃ j_ : ByteArray, (zs18 ++ t272) = j_ := ⟨_, rfl⟩
             replace H : ((spec_l8Name.f x6_2 false).bind fun t273 => (if zs21.size + t273.size ≤ 9223372036854775807 then (spec_WordNormal.l0 k2 a0 (zs21 ++ t273) (wrap64 (2 - t267)) (wrap64 (x6_2 + 1))) else (none))) = some (r1, r2) := by first | (rw [hzs21] at H; exact H) | (simp only [hzs21] at H ⊢; exact H) | exact H
             (try rw [hzs21] at A10)
             (try rw [hzs21] at A13)
             (try rw [hzs21] at A16)
             (try rw [hzs21] at A19)
             replace H := Option.bind_eq_some_iff.mp H
             obtain ⟨t273, A220, H⟩ := H
             replace H : (if zs21.size + t273.size ≤ 9223372036854775807 then (spec_WordNormal.l0 k2 a0 (zs21 ++ t273) (wrap64 (2 - t267)) (wrap64 (x6_2 + 1))) else (none)) = some (r1, r2) := H
             have A22 := Aside0.mk A220
             clear A220
             by_cases c23 : zs21.size + t273.size ≤ 9223372036854775807
             ·rw [if_pos c23] at H
              have c23b0 := eq_true c23
              have c23b1 : decide (zs21.size + t273.size ≤ 9223372036854775807) = true := decide_eq_true c23
              try have c23b2 : (9223372036854775807 < zs21.size + t273.size) = False := eq_false (Nat.not_lt.2 c23)
              obtain ⟨zs24, hzs24⟩ : ∃ j_ : ByteArray, (zs21 ++ t273) = j_ := ⟨_, rfl⟩
              replace H : (spec_WordNormal.l0 k2 a0 zs24 (wrap64 (2 - t267)) (wrap64 (x6_2 + 1))) = some (r1, r2) := by first | (rw [hzs24] at H; exact H) | (simp only [hzs24] at H ⊢; exact H) | exact H
              (try rw [hzs24] at A10)
              (try rw [hzs24] at A13)
              (try rw [hzs24] at A16)
              (try rw [hzs24] at A19)
              (try rw [hzs24] at A22)
              have H' := Aside0.mk H
              clear H
              go_wp2_with (first | ((with_reducible refine gate_callee (f := 57) rfl ?_); refine goesL_ (some 26) rfl rfl Tryd.func57 (by kernel_rfl) rfl #[.string a0] rfl (by (try simp only [List.map_toArray, List.map_cons, List.map_nil]); first | done | rfl | (simp only [List.length_drop, List.length_take]; rfl)) ?_; (with_reducible refine (spec_WordSided.calls k2 a0 true _ A10.out).mono ?_); rintro e w' ⟨rfl, ⟨nd, rfl⟩⟩; refine ⟨_, rfl, ?_⟩) | ((with_reducible refine gate_callee (f := 53) rfl ?_); refine goesL_ (some 42) rfl rfl Tryd.func53 (by kernel_rfl) rfl #[.int .i64 (wrap64 (x6_2 - 1)), .bool true] rfl (by (try simp only [List.map_toArray, List.map_cons, List.map_nil]); first | done | rfl | (simp only [List.length_drop, List.length_take]; rfl)) ?_; (with_reducible refine (spec_l8Name.calls (wrap64 (x6_2 - 1)) true t270 _ A13.out).mono ?_); rintro e w25 ⟨rfl, hb⟩; refine ⟨_, rfl, ?_⟩; have n0_ := Aside0.mk (below_step (by repeat (first | (with_reducible first | exact HB.out | apply below_alloc | apply pw_below_drewN | apply below_drew1) | exact HB.out)) hb); clear HB; have HB := n0_; clear n0_; (try clear hb); (try clear hb2); (try clear hk); (try clear hi)) | ((with_reducible refine gate_callee (f := 53) rfl ?_); refine goesL_ (some 45) rfl rfl Tryd.func53 (by kernel_rfl) rfl #[.int .i64 x6_2, .bool true] rfl (by (try simp only [List.map_toArray, List.map_cons, List.map_nil]); first | done | rfl | (simp only [List.length_drop, List.length_take]; rfl)) ?_; (with_reducible refine (spec_l8Name.calls x6_2 true t271 _ A16.out).mono ?_); rintro e w26 ⟨rfl, hb⟩; refine ⟨_, rfl, ?_⟩; have n0_ := Aside0.mk (below_step (by repeat (first | (with_reducible first | exact HB.out | apply below_alloc | apply pw_below_drewN | apply below_drew1) | exact HB.out)) hb); clear HB; have HB := n0_; clear n0_; (try clear hb); (try clear hb2); (try clear hk); (try clear hi)) | ((with_reducible refine gate_callee (f := 53) rfl ?_); refine goesL_ (some 49) rfl rfl Tryd.func53 (by kernel_rfl) rfl #[.int .i64 (wrap64 (x6_2 - 1)), .bool false] rfl (by (try simp only [List.map_toArray, List.map_cons, List.map_nil]); first | done | rfl | (simp only [List.length_drop, List.length_take]; rfl)) ?_; (with_reducible refine (spec_l8Name.calls (wrap64 (x6_2 - 1)) false t272 _ A19.out).mono ?_); rintro e w27 ⟨rfl, hb⟩; refine ⟨_, rfl, ?_⟩; have n0_ := Aside0.mk (below_step (by repeat (first | (with_reducible first | exact HB.out | apply below_alloc | apply pw_below_drewN | apply below_drew1) | exact HB.out)) hb); clear HB; have HB := n0_; clear n0_; (try clear hb); (try clear hb2); (try clear hk); (try clear hi)) | ((with_reducible refine gate_callee (f := 53) rfl ?_); refine goesL_ (some 52) rfl rfl Tryd.func53 (by kernel_rfl) rfl #[.int .i64 x6_2, .bool false] rfl (by (try simp only [List.map_toArray, List.map_cons, List.map_nil]); first | done | rfl | (simp only [List.length_drop, List.length_take]; rfl)) ?_; (with_reducible refine (spec_l8Name.calls x6_2 false t273 _ A22.out).mono ?_); rintro e w28 ⟨rfl, hb⟩; refine ⟨_, rfl, ?_⟩; have n0_ := Aside0.mk (below_step (by repeat (first | (with_reducible first | exact HB.out | apply below_alloc | apply pw_below_drewN | apply below_drew1) | exact HB.out)) hb); clear HB; have HB := n0_; clear n0_; (try clear hb); (try clear hb2); (try clear hk); (try clear hi)))
              go_roundg k2
              case measure => have := HJ2.out; have := HK2.out; omega
              case rel => exact ⟨(zs24), (wrap64 (x6_2 + 1)), (by first | rfl | (simp; done) | (simp [*]; done)), (by first | rfl | (simp; done) | (simp [*]; done)), H', ⟨by have := HJ2.out; have := HK2.out; omega⟩, ⟨by repeat (first | (with_reducible first | exact HB.out | apply below_alloc | apply pw_below_drewN | apply below_drew1) | exact HB.out)⟩⟩
             ·rw [if_neg c23] at H
              exact absurd H (by simp)
            ·rw [if_neg c20] at H
             exact absurd H (by simp)
           ·rw [if_neg c17] at H
            exact absurd H (by simp)
          ·rw [if_neg c14] at H
           exact absurd H (by simp)
         ·rw [if_neg c12] at H
          have c12b0 : ((Int.tmod x6_2 2) == 1) = false := beq_eq_false_iff_ne.mpr c12
          have c12b1 : ((Int.tmod x6_2 2) != 1) = true := bne_iff_ne.mpr c12
          have H' := Aside0.mk H
          clear H
          go_wp2_with (first | ((with_reducible refine gate_callee (f := 57) rfl ?_); refine goesL_ (some 26) rfl rfl Tryd.func57 (by kernel_rfl) rfl #[.string a0] rfl (by (try simp only [List.map_toArray, List.map_cons, List.map_nil]); first | done | rfl | (simp only [List.length_drop, List.length_take]; rfl)) ?_; (with_reducible refine (spec_WordSided.calls k2 a0 true _ A10.out).mono ?_); rintro e w' ⟨rfl, ⟨nd, rfl⟩⟩; refine ⟨_, rfl, ?_⟩))
          go_roundg k2
          case measure => have := HJ2.out; have := HK2.out; omega
          case rel => exact ⟨(x4_2), (wrap64 (x6_2 + 1)), (by first | rfl | (simp; done) | (simp [*]; done)), (by first | rfl | (simp; done) | (simp [*]; done)), H', ⟨by have := HJ2.out; have := HK2.out; omega⟩, ⟨by repeat (first | (with_reducible first | exact HB.out | apply below_alloc | apply pw_below_drewN | apply below_drew1) | exact HB.out)⟩⟩
        ·replace c11 := Bool.eq_false_iff.mpr c11
         subst c11
         have H1 : ((spec_l8Name.f x6_2 true).bind fun t274 => (if x4_2.size + t274.size ≤ 9223372036854775807 then ((spec_l8Name.f x6_2 true).bind fun t275 => (if (x4_2 ++ t274).size + t275.size ≤ 9223372036854775807 then (spec_WordNormal.l0 k2 a0 ((x4_2 ++ t274) ++ t275) (wrap64 (2 - t267)) (wrap64 (x6_2 + 1))) else (none))) else (none))) = some (r1, r2) := by rw [if_neg (show ¬ (false = true) by decide)] at H; exact H
         clear H
         have H := H1
         clear H1
         replace H := Option.bind_eq_some_iff.mp H
         obtain ⟨t274, A290, H⟩ := H
         replace H : (if x4_2.size + t274.size ≤ 9223372036854775807 then ((spec_l8Name.f x6_2 true).bind fun t275 => (if (x4_2 ++ t274).size + t275.size ≤ 9223372036854775807 then (spec_WordNormal.l0 k2 a0 ((x4_2 ++ t274) ++ t275) (wrap64 (2 - t267)) (wrap64 (x6_2 + 1))) else (none))) else (none)) = some (r1, r2) := H
         have A29 := Aside0.mk A290
         clear A290
         by_cases c30 : x4_2.size + t274.size ≤ 9223372036854775807
         ·rw [if_pos c30] at H
          have c30b0 := eq_true c30
          have c30b1 : decide (x4_2.size + t274.size ≤ 9223372036854775807) = true := decide_eq_true c30
          try have c30b2 : (9223372036854775807 < x4_2.size + t274.size) = False := eq_false (Nat.not_lt.2 c30)
          obtain ⟨zs31, hzs31⟩ : ∃ j_ : ByteArray, (x4_2 ++ t274) = j_ := ⟨_, rfl⟩
          replace H : ((spec_l8Name.f x6_2 true).bind fun t275 => (if zs31.size + t275.size ≤ 9223372036854775807 then (spec_WordNormal.l0 k2 a0 (zs31 ++ t275) (wrap64 (2 - t267)) (wrap64 (x6_2 + 1))) else (none))) = some (r1, r2) := by first | (rw [hzs31] at H; exact H) | (simp only [hzs31] at H ⊢; exact H) | exact H
          (try rw [hzs31] at A10)
          (try rw [hzs31] at A29)
          replace H := Option.bind_eq_some_iff.mp H
          obtain ⟨t275, A320, H⟩ := H
          replace H : (if zs31.size + t275.size ≤ 9223372036854775807 then (spec_WordNormal.l0 k2 a0 (zs31 ++ t275) (wrap64 (2 - t267)) (wrap64 (x6_2 + 1))) else (none)) = some (r1, r2) := H
          have A32 := Aside0.mk A320
          clear A320
          by_cases c33 : zs31.size + t275.size ≤ 9223372036854775807
          ·rw [if_pos c33] at H
           have c33b0 := eq_true c33
           have c33b1 : decide (zs31.size + t275.size ≤ 9223372036854775807) = true := decide_eq_true c33
           try have c33b2 : (9223372036854775807 < zs31.size + t275.size) = False := eq_false (Nat.not_lt.2 c33)
           obtain ⟨zs34, hzs34⟩ : ∃ j_ : ByteArray, (zs31 ++ t275) = j_ := ⟨_, rfl⟩
           replace H : (spec_WordNormal.l0 k2 a0 zs34 (wrap64 (2 - t267)) (wrap64 (x6_2 + 1))) = some (r1, r2) := by first | (rw [hzs34] at H; exact H) | (simp only [hzs34] at H ⊢; exact H) | exact H
           (try rw [hzs34] at A10)
           (try rw [hzs34] at A29)
           (try rw [hzs34] at A32)
           have H' := Aside0.mk H
           clear H
           go_wp2_with (first | ((with_reducible refine gate_callee (f := 57) rfl ?_); refine goesL_ (some 26) rfl rfl Tryd.func57 (by kernel_rfl) rfl #[.string a0] rfl (by (try simp only [List.map_toArray, List.map_cons, List.map_nil]); first | done | rfl | (simp only [List.length_drop, List.length_take]; rfl)) ?_; (with_reducible refine (spec_WordSided.calls k2 a0 false _ A10.out).mono ?_); rintro e w' ⟨rfl, ⟨nd, rfl⟩⟩; refine ⟨_, rfl, ?_⟩) | ((with_reducible refine gate_callee (f := 53) rfl ?_); refine goesL_ (some 30) rfl rfl Tryd.func53 (by kernel_rfl) rfl #[.int .i64 x6_2, .bool true] rfl (by (try simp only [List.map_toArray, List.map_cons, List.map_nil]); first | done | rfl | (simp only [List.length_drop, List.length_take]; rfl)) ?_; (with_reducible refine (spec_l8Name.calls x6_2 true t274 _ A29.out).mono ?_); rintro e w35 ⟨rfl, hb⟩; refine ⟨_, rfl, ?_⟩; have n0_ := Aside0.mk (below_step (by repeat (first | (with_reducible first | exact HB.out | apply below_alloc | apply pw_below_drewN | apply below_drew1) | exact HB.out)) hb); clear HB; have HB := n0_; clear n0_; (try clear hb); (try clear hb2); (try clear hk); (try clear hi)) | ((with_reducible refine gate_callee (f := 53) rfl ?_); refine goesL_ (some 33) rfl rfl Tryd.func53 (by kernel_rfl) rfl #[.int .i64 x6_2, .bool true] rfl (by (try simp only [List.map_toArray, List.map_cons, List.map_nil]); first | done | rfl | (simp only [List.length_drop, List.length_take]; rfl)) ?_; (with_reducible refine (spec_l8Name.calls x6_2 true t275 _ A32.out).mono ?_); rintro e w36 ⟨rfl, hb⟩; refine ⟨_, rfl, ?_⟩; have n0_ := Aside0.mk (below_step (by repeat (first | (with_reducible first | exact HB.out | apply below_alloc | apply pw_below_drewN | apply below_drew1) | exact HB.out)) hb); clear HB; have HB := n0_; clear n0_; (try clear hb); (try clear hb2); (try clear hk); (try clear hi)))
           go_roundg k2
           case measure => have := HJ2.out; have := HK2.out; omega
           case rel => exact ⟨(zs34), (wrap64 (x6_2 + 1)), (by first | rfl | (simp; done) | (simp [*]; done)), (by first | rfl | (simp; done) | (simp [*]; done)), H', ⟨by have := HJ2.out; have := HK2.out; omega⟩, ⟨by repeat (first | (with_reducible first | exact HB.out | apply below_alloc | apply pw_below_drewN | apply below_drew1) | exact HB.out)⟩⟩
          ·rw [if_neg c33] at H
           exact absurd H (by simp)
         ·rw [if_neg c30] at H
          exact absurd H (by simp)
       ·rw [if_neg c9] at H
        have c9b0 : decide (x6_2 < (wrap64 (2 - t267))) = false := decide_eq_false c9
        clear c9
        simp only [Option.some.injEq, Prod.mk.injEq] at H
        obtain ⟨rfl, rfl⟩ := H
        go_wp2
        go_ret2
        exact ⟨by first | rfl | (simp [errW_none, errW_some] <;> rfl) | (simp [*, errW_none, errW_some] <;> rfl), by repeat (first | (with_reducible first | exact HB.out | apply below_alloc | apply pw_below_drewN | apply below_drew1) | exact HB.out)⟩

/-! ### laws_FnNormal: function 9 -/
def laws_FnNormal.j0 : Nat → ByteArray → ByteArray → Bool → ByteArray → Bool → Bool → Option (Bool)
  | 0, _, _, _, _, _, _ => none
  | k + 1, x3, x4, x5, x6, x7, x37 => if x37 = true then (if (x5 == x7) = true then (some (x4.toList == x6.toList)) else (some false)) else ((impl_WordNormal.f k x4).bind fun bt281 => ((impl_WordCorners.f k x4).bind fun t283 => (if bt281.2 = true then (if bt281.1.toList = x4.toList then ((impl_WordSame.f k x4 x3).bind fun t284 => (if t284 = true then (if t283 = 1 then (some (decide ((x4.size : Int) ≤ (x3.size : Int)))) else (if t283 = 2 then (if x4.toList = ([97, 65] : List UInt8) then (some (decide ((x4.size : Int) ≤ (x3.size : Int)))) else (some false)) else (some false))) else (some false))) else (some false)) else (some false))))
def laws_FnNormal.f (k : Nat) (l0 : List Int) : Option (Bool) := if (l0.length : Int) > 1048576 then (some true) else ((spec_DrawWordNormal.f k l0).bind fun t276 => ((impl_WordNormal.f k t276).bind fun bt277 => ((spec_WordNormal.f k t276).bind fun bt279 => (if (bt277.2 != bt279.2) = true then (laws_FnNormal.j0 k t276 bt277.1 bt277.2 bt279.1 bt279.2 true) else (if bt277.1.toList = bt279.1.toList then (laws_FnNormal.j0 k t276 bt277.1 bt277.2 bt279.1 bt279.2 (!bt277.2)) else (laws_FnNormal.j0 k t276 bt277.1 bt277.2 bt279.1 bt279.2 true))))))
set_option maxHeartbeats 8000000 in
set_option maxRecDepth 100000 in
theorem laws_FnNormal.calls (k : Nat) (A0 : Option Addr) (c0 : Nat) (l0 : List Int) (r : Bool) (w : World) (hr0 : Kd.C (Kd.int .u8) w A0 l0.length l0) (hc0 : l0.length ≤ c0) (h : laws_FnNormal.f k l0 = some r) :
    Calls Tryd.prog 9 #[.slice A0 l0.length c0] w fun e w' => e = .returned (.bool r) ∧ Below w.heap.size w w' := by
 have HR0 := Aside0.mk hr0
 have HC0 := Aside0.mk hc0
 clear hr0 hc0
 have HB := Aside0.mk (Below.refl w.heap.size w)
 have H : (if (l0.length : Int) > 1048576 then (some true) else ((spec_DrawWordNormal.f k l0).bind fun t276 => ((impl_WordNormal.f k t276).bind fun bt277 => ((spec_WordNormal.f k t276).bind fun bt279 => (if (bt277.2 != bt279.2) = true then (laws_FnNormal.j0 k t276 bt277.1 bt277.2 bt279.1 bt279.2 true) else (if bt277.1.toList = bt279.1.toList then (laws_FnNormal.j0 k t276 bt277.1 bt277.2 bt279.1 bt279.2 (!bt277.2)) else (laws_FnNormal.j0 k t276 bt277.1 bt277.2 bt279.1 bt279.2 true))))))) = some r := h
 clear h
 by_cases c2 : (l0.length : Int) > 1048576
 ·rw [if_pos c2] at H
  have c2b0 : decide (1048576 < (l0.length : Int)) = true := decide_eq_true c2
  have c2b1 : decide (1048576 < l0.length) = true := decide_eq_true (by omega)
  clear c2
  obtain rfl := Option.some.inj H
  go_enter Tryd.func9, Tryd.ntmps9
  go_wp2
  go_ret
  exact ⟨by first | rfl | (simp [errW_none, errW_some] <;> rfl) | (simp [*, errW_none, errW_some] <;> rfl), by repeat (first | (with_reducible first | exact HB.out | apply below_alloc | apply pw_below_drewN | apply below_drew1) | exact HB.out)⟩
 ·rw [if_neg c2] at H
  have c2b0 : decide (1048576 < (l0.length : Int)) = false := decide_eq_false c2
  have c2b1 : decide (1048576 < l0.length) = false := decide_eq_false (by omega)
  clear c2
  replace H := Option.bind_eq_some_iff.mp H
  obtain ⟨t276, A30, H⟩ := H
  replace H : ((impl_WordNormal.f k t276).bind fun bt277 => ((spec_WordNormal.f k t276).bind fun bt279 => (if (bt277.2 != bt279.2) = true then (laws_FnNormal.j0 k t276 bt277.1 bt277.2 bt279.1 bt279.2 true) else (if bt277.1.toList = bt279.1.toList then (laws_FnNormal.j0 k t276 bt277.1 bt277.2 bt279.1 bt279.2 (!bt277.2)) else (laws_FnNormal.j0 k t276 bt277.1 bt277.2 bt279.1 bt279.2 true))))) = some r := H
  have A3 := Aside0.mk A30
  clear A30
  replace H := Option.bind_eq_some_iff.mp H
  obtain ⟨⟨t277, t278⟩, A40, H⟩ := H
  replace H : ((spec_WordNormal.f k t276).bind fun bt279 => (if (t278 != bt279.2) = true then (laws_FnNormal.j0 k t276 t277 t278 bt279.1 bt279.2 true) else (if t277.toList = bt279.1.toList then (laws_FnNormal.j0 k t276 t277 t278 bt279.1 bt279.2 (!t278)) else (laws_FnNormal.j0 k t276 t277 t278 bt279.1 bt279.2 true)))) = some r := H
  have A4 := Aside0.mk A40
  clear A40
  replace H := Option.bind_eq_some_iff.mp H
  obtain ⟨⟨t279, t280⟩, A50, H⟩ := H
  replace H : (if (t278 != t280) = true then (laws_FnNormal.j0 k t276 t277 t278 t279 t280 true) else (if t277.toList = t279.toList then (laws_FnNormal.j0 k t276 t277 t278 t279 t280 (!t278)) else (laws_FnNormal.j0 k t276 t277 t278 t279 t280 true))) = some r := H
  have A5 := Aside0.mk A50
  clear A50
  have HC6 := Aside0.mk H
  clear H
  go_enter Tryd.func9, Tryd.ntmps9
  go_upto_region 6 with (first | ((with_reducible refine gate_callee (f := 33) rfl ?_); refine goesL_ (some 15) rfl rfl Tryd.func33 (by kernel_rfl) rfl #[.slice A0 l0.length c0] rfl (by (try simp only [List.map_toArray, List.map_cons, List.map_nil]); first | done | rfl | (simp only [List.length_drop, List.length_take]; rfl)) ?_; (with_reducible refine (spec_DrawWordNormal.calls k _ _ l0 t276 _ ?side1 ?side2 A3.out).mono ?_); (case side1 => repeat (first | exact HR0.out | (with_reducible refine Kd.C_alloc ?_ _) | (with_reducible refine Kd.C_drewN ?_ _) | (with_reducible refine Kd.C_drew ?_))); (case side2 => exact HC0.out); rintro e w7 ⟨rfl, hb⟩; refine ⟨_, rfl, ?_⟩; have n0_ := Aside0.mk (below_step (by repeat (first | (with_reducible first | exact HB.out | apply below_alloc | apply pw_below_drewN | apply below_drew1) | exact HB.out)) hb); clear HB; have HB := n0_; clear n0_; (try clear hb); (try clear hb2); (try clear hk); (try clear hi)) | ((with_reducible refine gate_callee (f := 27) rfl ?_); refine goesL_ (some 18) rfl rfl Tryd.func27 (by kernel_rfl) rfl #[.string t276] rfl (by (try simp only [List.map_toArray, List.map_cons, List.map_nil]); first | done | rfl | (simp only [List.length_drop, List.length_take]; rfl)) ?_; (with_reducible refine (impl_WordNormal.calls k t276 t277 t278 _ A4.out).mono ?_); rintro e w8 ⟨rfl, hb⟩; refine ⟨_, rfl, ?_⟩; have n0_ := Aside0.mk (below_step (by repeat (first | (with_reducible first | exact HB.out | apply below_alloc | apply pw_below_drewN | apply below_drew1) | exact HB.out)) hb); clear HB; have HB := n0_; clear n0_; (try clear hb); (try clear hb2); (try clear hk); (try clear hi)) | ((with_reducible refine gate_callee (f := 34) rfl ?_); refine goesL_ (some 23) rfl rfl Tryd.func34 (by kernel_rfl) rfl #[.string t276] rfl (by (try simp only [List.map_toArray, List.map_cons, List.map_nil]); first | done | rfl | (simp only [List.length_drop, List.length_take]; rfl)) ?_; (with_reducible refine (spec_WordNormal.calls k t276 t279 t280 _ A5.out).mono ?_); rintro e w9 ⟨rfl, hb⟩; refine ⟨_, rfl, ?_⟩; have n0_ := Aside0.mk (below_step (by repeat (first | (with_reducible first | exact HB.out | apply below_alloc | apply pw_below_drewN | apply below_drew1) | exact HB.out)) hb); clear HB; have HB := n0_; clear n0_; (try clear hb); (try clear hb2); (try clear hk); (try clear hi)))
  (try simp only [Act.put, List.setIfInBounds_toArray, List.set_cons_zero, List.set_cons_succ])
  go_cut [37] (fun v37 wc => ∃ (kq : Nat) (x37_5 : Bool), v37 = .bool x37_5 ∧ Aside0 (laws_FnNormal.j0 kq t276 t277 t278 t279 t280 x37_5 = some r) ∧ Aside0 (kq ≤ k) ∧ Aside0 (Below w.heap.size w wc))
  case first =>
   have H := HC6.out
   clear HC6
   by_cases c10 : (t278 != t280) = true
   ·rw [if_pos c10] at H
    have c10b0 : (t278 != t280) = true := c10
    (try (have c10b1 : decide (t278 = t280) = false := by simpa using c10))
    (try (have c10b2 : (t278 == t280) = false := by simpa using c10))
    (try (have c10b3 : ¬ (t278 = t280) := by simpa using c10))
    clear c10
    (first | rw [c10b0] | (simp only [i64_w, i32_w]; rw [c10b0]) | skip)
    have H' := Aside0.mk H
    clear H
    go_wp2
    go_meet
    case rel => exact ⟨_, (true), (by first | rfl | (simp; done) | (simp [*]; done)), H', ⟨by first | omega | exact Nat.le_refl _⟩, ⟨by repeat (first | (with_reducible first | exact HB.out | apply below_alloc | apply pw_below_drewN | apply below_drew1) | exact HB.out)⟩⟩
   ·rw [if_neg c10] at H
    have c10b0 : (t278 != t280) = false := by simpa using c10
    (try (have c10b1 : decide (t278 = t280) = true := by simpa using c10))
    (try (have c10b2 : (t278 == t280) = true := by simpa using c10))
    clear c10
    (first | rw [c10b0] | (simp only [i64_w, i32_w]; rw [c10b0]) | skip)
    by_cases c11 : t277.toList = t279.toList
    ·rw [if_pos c11] at H
     have c11b0 : (t277.toList == t279.toList) = true := beq_iff_eq.mpr c11
     have c11b1 : (t277.toList != t279.toList) = false := bne_eq_false_iff_eq.mpr c11
     clear c11
     have H' := Aside0.mk H
     clear H
     go_wp2
     go_meet
     case rel => exact ⟨_, (!t278), (by first | rfl | (simp; done) | (simp [*]; done)), H', ⟨by first | omega | exact Nat.le_refl _⟩, ⟨by repeat (first | (with_reducible first | exact HB.out | apply below_alloc | apply pw_below_drewN | apply below_drew1) | exact HB.out)⟩⟩
    ·rw [if_neg c11] at H
     have c11b0 : (t277.toList == t279.toList) = false := beq_eq_false_iff_ne.mpr c11
     have c11b1 : (t277.toList != t279.toList) = true := bne_iff_ne.mpr c11
     have H' := Aside0.mk H
     clear H
     go_wp2
     go_meet
     case rel => exact ⟨_, (true), (by first | rfl | (simp; done) | (simp [*]; done)), H', ⟨by first | omega | exact Nat.le_refl _⟩, ⟨by repeat (first | (with_reducible first | exact HB.out | apply below_alloc | apply pw_below_drewN | apply below_drew1) | exact HB.out)⟩⟩
  case rest =>
   clear HC6
   try clear c1
   try clear c2
   try clear c2b0
   try clear c2b1
   try clear p2
   try clear c3
   try clear c9
   try clear c10
   try clear c10b0
   try clear c10b1
   try clear c10b2
   try clear c11
   try clear c11b0
   try clear c11b1
   obtain ⟨kq, x37_5, rfl, HA, HJ5, HB⟩ := hcut
   cases kq with
   | zero => exact absurd HA.out (by simp [laws_FnNormal.j0])
   | succ kj5 =>
    have H := HA.out
    clear HA
    simp only [laws_FnNormal.j0] at H
    by_cases c12 : x37_5 = true
    ·subst c12
     have H1 : (if (t278 == t280) = true then (some (t277.toList == t279.toList)) else (some false)) = some r := by rw [if_pos rfl] at H; exact H
     clear H
     have H := H1
     clear H1
     by_cases c13 : (t278 == t280) = true
     ·rw [if_pos c13] at H
      have c13b0 : (t278 == t280) = true := c13
      (try (have c13b1 : decide (t278 = t280) = true := by simpa using c13))
      (try (have c13b2 : (t278 == t280) = true := by simpa using c13))
      clear c13
      obtain rfl := Option.some.inj H
      go_wp2
      go_ret
      exact ⟨by first | rfl | (simp [errW_none, errW_some] <;> rfl) | (simp [*, errW_none, errW_some] <;> rfl), by repeat (first | (with_reducible first | exact HB.out | apply below_alloc | apply pw_below_drewN | apply below_drew1) | exact HB.out)⟩
     ·rw [if_neg c13] at H
      have c13b0 : (t278 == t280) = false := by simpa using c13
      (try (have c13b1 : decide (t278 = t280) = false := by simpa using c13))
      (try (have c13b2 : (t278 == t280) = false := by simpa using c13))
      (try (have c13b3 : ¬ (t278 = t280) := by simpa using c13))
      clear c13
      obtain rfl := Option.some.inj H
      go_wp2
      go_ret
      exact ⟨by first | rfl | (simp [errW_none, errW_some] <;> rfl) | (simp [*, errW_none, errW_some] <;> rfl), by repeat (first | (with_reducible first | exact HB.out | apply below_alloc | apply pw_below_drewN | apply below_drew1) | exact HB.out)⟩
    ·replace c12 := Bool.eq_false_iff.mpr c12
     subst c12
     have H1 : ((impl_WordNormal.f kj5 t277).bind fun bt281 => ((impl_WordCorners.f kj5 t277).bind fun t283 => (if bt281.2 = true then (if bt281.1.toList = t277.toList then ((impl_WordSame.f kj5 t277 t276).bind fun t284 => (if t284 = true then (if t283 = 1 then (some (decide ((t277.size : Int) ≤ (t276.size : Int)))) else (if t283 = 2 then (if t277.toList = ([97, 65] : List UInt8) then (some (decide ((t277.size : Int) ≤ (t276.size : Int)))) else (some false)) else (some false))) else (some false))) else (some false)) else (some false)))) = some r := by rw [if_neg (show ¬ (false = true) by decide)] at H; exact H
     clear H
     have H := H1
     clear H1
     replace H := Option.bind_eq_some_iff.mp H
     obtain ⟨⟨t281, t282⟩, A140, H⟩ := H
     replace H : ((impl_WordCorners.f kj5 t277).bind fun t283 => (if t282 = true then (if t281.toList = t277.toList then ((impl_WordSame.f kj5 t277 t276).bind fun t284 => (if t284 = true then (if t283 = 1 then (some (decide ((t277.size : Int) ≤ (t276.size : Int)))) else (if t283 = 2 then (if t277.toList = ([97, 65] : List UInt8) then (some (decide ((t277.size : Int) ≤ (t276.size : Int)))) else (some false)) else (some false))) else (some false))) else (some false)) else (some false))) = some r := H
     have A14 := Aside0.mk A140
     clear A140
     replace H := Option.bind_eq_some_iff.mp H
     obtain ⟨t283, A150, H⟩ := H
     replace H : (if t282 = true then (if t281.toList = t277.toList then ((impl_WordSame.f kj5 t277 t276).bind fun t284 => (if t284 = true then (if t283 = 1 then (some (decide ((t277.size : Int) ≤ (t276.size : Int)))) else (if t283 = 2 then (if t277.toList = ([97, 65] : List UInt8) then (some (decide ((t277.size : Int) ≤ (t276.size : Int)))) else (some false)) else (some false))) else (some false))) else (some false)) else (some false)) = some r := H
     have A15 := Aside0.mk A150
     clear A150
     by_cases c16 : t282 = true
     ·subst c16
      have H1 : (if t281.toList = t277.toList then ((impl_WordSame.f kj5 t277 t276).bind fun t284 => (if t284 = true then (if t283 = 1 then (some (decide ((t277.size : Int) ≤ (t276.size : Int)))) else (if t283 = 2 then (if t277.toList = ([97, 65] : List UInt8) then (some (decide ((t277.size : Int) ≤ (t276.size : Int)))) else (some false)) else (some false))) else (some false))) else (some false)) = some r := by rw [if_pos rfl] at H; exact H
      clear H
      have H := H1
      clear H1
      by_cases c17 : t281.toList = t277.toList
      ·rw [if_pos c17] at H
       have c17b0 : (t281.toList == t277.toList) = true := beq_iff_eq.mpr c17
       have c17b1 : (t281.toList != t277.toList) = false := bne_eq_false_iff_eq.mpr c17
       clear c17
       replace H := Option.bind_eq_some_iff.mp H
       obtain ⟨t284, A180, H⟩ := H
       replace H : (if t284 = true then (if t283 = 1 then (some (decide ((t277.size : Int) ≤ (t276.size : Int)))) else (if t283 = 2 then (if t277.toList = ([97, 65] : List UInt8) then (some (decide ((t277.size : Int) ≤ (t276.size : Int)))) else (some false)) else (some false))) else (some false)) = some r := H
       have A18 := Aside0.mk A180
       clear A180
       by_cases c19 : t284 = true
       ·subst c19
        have H1 : (if t283 = 1 then (some (decide ((t277.size : Int) ≤ (t276.size : Int)))) else (if t283 = 2 then (if t277.toList = ([97, 65] : List UInt8) then (some (decide ((t277.size : Int) ≤ (t276.size : Int)))) else (some false)) else (some false))) = some r := by rw [if_pos rfl] at H; exact H
        clear H
        have H := H1
        clear H1
        by_cases c20 : t283 = 1
        ·rw [if_pos c20] at H
         have c20b0 : (t283 == 1) = true := beq_iff_eq.mpr c20
         have c20b1 : (t283 != 1) = false := bne_eq_false_iff_eq.mpr c20
         clear c20
         obtain rfl := Option.some.inj H
         go_wp2_with (first | ((with_reducible refine gate_callee (f := 27) rfl ?_); refine goesL_ (some 48) rfl rfl Tryd.func27 (by kernel_rfl) rfl #[.string t277] rfl (by (try simp only [List.map_toArray, List.map_cons, List.map_nil]); first | done | rfl | (simp only [List.length_drop, List.length_take]; rfl)) ?_; (with_reducible refine (impl_WordNormal.calls kj5 t277 t281 true _ A14.out).mono ?_); rintro e w21 ⟨rfl, hb⟩; refine ⟨_, rfl, ?_⟩; have n0_ := Aside0.mk (below_step (by repeat (first | (with_reducible first | exact HB.out | apply below_alloc | apply pw_below_drewN | apply below_drew1) | exact HB.out)) hb); clear HB; have HB := n0_; clear n0_; (try clear hb); (try clear hb2); (try clear hk); (try clear hi)) | ((with_reducible refine gate_callee (f := 32) rfl ?_); refine goesL_ (some 52) rfl rfl Tryd.func32 (by kernel_rfl) rfl #[.string t277] rfl (by (try simp only [List.map_toArray, List.map_cons, List.map_nil]); first | done | rfl | (simp only [List.length_drop, List.length_take]; rfl)) ?_; (with_reducible refine (impl_WordCorners.calls kj5 t277 t283 _ A15.out).mono ?_); rintro e w22 ⟨rfl, hb⟩; refine ⟨_, rfl, ?_⟩; have n0_ := Aside0.mk (below_step (by repeat (first | (with_reducible first | exact HB.out | apply below_alloc | apply pw_below_drewN | apply below_drew1) | exact HB.out)) hb); clear HB; have HB := n0_; clear n0_; (try clear hb); (try clear hb2); (try clear hk); (try clear hi)) | (go_at_call 15; (with_reducible refine (impl_WordSame.calls kj5 t277 t276 true _ A18.out).mono ?_); rintro e w23 ⟨rfl, hb⟩; have n0_ := Aside0.mk (below_step (by repeat (first | (with_reducible first | exact HB.out | apply below_alloc | apply pw_below_drewN | apply below_drew1) | exact HB.out)) hb); clear HB; have HB := n0_; clear n0_; (try clear hb); (try clear hb2); (try clear hk); (try clear hi)))
         go_ret
         exact ⟨by first | rfl | (simp [errW_none, errW_some] <;> rfl) | (simp [*, errW_none, errW_some] <;> rfl), by repeat (first | (with_reducible first | exact HB.out | apply below_alloc | apply pw_below_drewN | apply below_drew1) | exact HB.out)⟩
        ·rw [if_neg c20] at H
         have c20b0 : (t283 == 1) = false := beq_eq_false_iff_ne.mpr c20
         have c20b1 : (t283 != 1) = true := bne_iff_ne.mpr c20
         by_cases c24 : t283 = 2
         ·rw [if_pos c24] at H
          have c24b0 : (t283 == 2) = true := beq_iff_eq.mpr c24
          have c24b1 : (t283 != 2) = false := bne_eq_false_iff_eq.mpr c24
          clear c24
          by_cases c25 : t277.toList = ([97, 65] : List UInt8)
          ·rw [if_pos c25] at H
           have c25b0 : (t277.toList == ([97, 65] : List UInt8)) = true := beq_iff_eq.mpr c25
           have c25b1 : (t277.toList != ([97, 65] : List UInt8)) = false := bne_eq_false_iff_eq.mpr c25
           clear c25
           obtain rfl := Option.some.inj H
           go_wp2_with (first | ((with_reducible refine gate_callee (f := 27) rfl ?_); refine goesL_ (some 48) rfl rfl Tryd.func27 (by kernel_rfl) rfl #[.string t277] rfl (by (try simp only [List.map_toArray, List.map_cons, List.map_nil]); first | done | rfl | (simp only [List.length_drop, List.length_take]; rfl)) ?_; (with_reducible refine (impl_WordNormal.calls kj5 t277 t281 true _ A14.out).mono ?_); rintro e w26 ⟨rfl, hb⟩; refine ⟨_, rfl, ?_⟩; have n0_ := Aside0.mk (below_step (by repeat (first | (with_reducible first | exact HB.out | apply below_alloc | apply pw_below_drewN | apply below_drew1) | exact HB.out)) hb); clear HB; have HB := n0_; clear n0_; (try clear hb); (try clear hb2); (try clear hk); (try clear hi)) | ((with_reducible refine gate_callee (f := 32) rfl ?_); refine goesL_ (some 52) rfl rfl Tryd.func32 (by kernel_rfl) rfl #[.string t277] rfl (by (try simp only [List.map_toArray, List.map_cons, List.map_nil]); first | done | rfl | (simp only [List.length_drop, List.length_take]; rfl)) ?_; (with_reducible refine (impl_WordCorners.calls kj5 t277 t283 _ A15.out).mono ?_); rintro e w27 ⟨rfl, hb⟩; refine ⟨_, rfl, ?_⟩; have n0_ := Aside0.mk (below_step (by repeat (first | (with_reducible first | exact HB.out | apply below_alloc | apply pw_below_drewN | apply below_drew1) | exact HB.out)) hb); clear HB; have HB := n0_; clear n0_; (try clear hb); (try clear hb2); (try clear hk); (try clear hi)) | (go_at_call 15; (with_reducible refine (impl_WordSame.calls kj5 t277 t276 true _ A18.out).mono ?_); rintro e w28 ⟨rfl, hb⟩; have n0_ := Aside0.mk (below_step (by repeat (first | (with_reducible first | exact HB.out | apply below_alloc | apply pw_below_drewN | apply below_drew1) | exact HB.out)) hb); clear HB; have HB := n0_; clear n0_; (try clear hb); (try clear hb2); (try clear hk); (try clear hi)))
           go_ret
           exact ⟨by first | rfl | (simp [errW_none, errW_some] <;> rfl) | (simp [*, errW_none, errW_some] <;> rfl), by repeat (first | (with_reducible first | exact HB.out | apply below_alloc | apply pw_below_drewN | apply below_drew1) | exact HB.out)⟩
          ·rw [if_neg c25] at H
           have c25b0 : (t277.toList == ([97, 65] : List UInt8)) = false := beq_eq_false_iff_ne.mpr c25
           have c25b1 : (t277.toList != ([97, 65] : List UInt8)) = true := bne_iff_ne.mpr c25
           obtain rfl := Option.some.inj H
           go_wp2_with (first | ((with_reducible refine gate_callee (f := 27) rfl ?_); refine goesL_ (some 48) rfl rfl Tryd.func27 (by kernel_rfl) rfl #[.string t277] rfl (by (try simp only [List.map_toArray, List.map_cons, List.map_nil]); first | done | rfl | (simp only [List.length_drop, List.length_take]; rfl)) ?_; (with_reducible refine (impl_WordNormal.calls kj5 t277 t281 true _ A14.out).mono ?_); rintro e w29 ⟨rfl, hb⟩; refine ⟨_, rfl, ?_⟩; have n0_ := Aside0.mk (below_step (by repeat (first | (with_reducible first | exact HB.out | apply below_alloc | apply pw_below_drewN | apply below_drew1) | exact HB.out)) hb); clear HB; have HB := n0_; clear n0_; (try clear hb); (try clear hb2); (try clear hk); (try clear hi)) | ((with_reducible refine gate_callee (f := 32) rfl ?_); refine goesL_ (some 52) rfl rfl Tryd.func32 (by kernel_rfl) rfl #[.string t277] rfl (by (try simp only [List.map_toArray, List.map_cons, List.map_nil]); first | done | rfl | (simp only [List.length_drop, List.length_take]; rfl)) ?_; (with_reducible refine (impl_WordCorners.calls kj5 t277 t283 _ A15.out).mono ?_); rintro e w30 ⟨rfl, hb⟩; refine ⟨_, rfl, ?_⟩; have n0_ := Aside0.mk (below_step (by repeat (first | (with_reducible first | exact HB.out | apply below_alloc | apply pw_below_drewN | apply below_drew1) | exact HB.out)) hb); clear HB; have HB := n0_; clear n0_; (try clear hb); (try clear hb2); (try clear hk); (try clear hi)) | (go_at_call 15; (with_reducible refine (impl_WordSame.calls kj5 t277 t276 true _ A18.out).mono ?_); rintro e w31 ⟨rfl, hb⟩; have n0_ := Aside0.mk (below_step (by repeat (first | (with_reducible first | exact HB.out | apply below_alloc | apply pw_below_drewN | apply below_drew1) | exact HB.out)) hb); clear HB; have HB := n0_; clear n0_; (try clear hb); (try clear hb2); (try clear hk); (try clear hi)))
           go_ret
           exact ⟨by first | rfl | (simp [errW_none, errW_some] <;> rfl) | (simp [*, errW_none, errW_some] <;> rfl), by repeat (first | (with_reducible first | exact HB.out | apply below_alloc | apply pw_below_drewN | apply below_drew1) | exact HB.out)⟩
         ·rw [if_neg c24] at H
          have c24b0 : (t283 == 2) = false := beq_eq_false_iff_ne.mpr c24
          have c24b1 : (t283 != 2) = true := bne_iff_ne.mpr c24
          obtain rfl := Option.some.inj H
          go_wp2_with (first | ((with_reducible refine gate_callee (f := 27) rfl ?_); refine goesL_ (some 48) rfl rfl Tryd.func27 (by kernel_rfl) rfl #[.string t277] rfl (by (try simp only [List.map_toArray, List.map_cons, List.map_nil]); first | done | rfl | (simp only [List.length_drop, List.length_take]; rfl)) ?_; (with_reducible refine (impl_WordNormal.calls kj5 t277 t281 true _ A14.out).mono ?_); rintro e w32 ⟨rfl, hb⟩; refine ⟨_, rfl, ?_⟩; have n0_ := Aside0.mk (below_step (by repeat (first | (with_reducible first | exact HB.out | apply below_alloc | apply pw_below_drewN | apply below_drew1) | exact HB.out)) hb); clear HB; have HB := n0_; clear n0_; (try clear hb); (try clear hb2); (try clear hk); (try clear hi)) | ((with_reducible refine gate_callee (f := 32) rfl ?_); refine goesL_ (some 52) rfl rfl Tryd.func32 (by kernel_rfl) rfl #[.string t277] rfl (by (try simp only [List.map_toArray, List.map_cons, List.map_nil]); first | done | rfl | (simp only [List.length_drop, List.length_take]; rfl)) ?_; (with_reducible refine (impl_WordCorners.calls kj5 t277 t283 _ A15.out).mono ?_); rintro e w33 ⟨rfl, hb⟩; refine ⟨_, rfl, ?_⟩; have n0_ := Aside0.mk (below_step (by repeat (first | (with_reducible first | exact HB.out | apply below_alloc | apply pw_below_drewN | apply below_drew1) | exact HB.out)) hb); clear HB; have HB := n0_; clear n0_; (try clear hb); (try clear hb2); (try clear hk); (try clear hi)) | (go_at_call 15; (with_reducible refine (impl_WordSame.calls kj5 t277 t276 true _ A18.out).mono ?_); rintro e w34 ⟨rfl, hb⟩; have n0_ := Aside0.mk (below_step (by repeat (first | (with_reducible first | exact HB.out | apply below_alloc | apply pw_below_drewN | apply below_drew1) | exact HB.out)) hb); clear HB; have HB := n0_; clear n0_; (try clear hb); (try clear hb2); (try clear hk); (try clear hi)))
          go_ret
          exact ⟨by first | rfl | (simp [errW_none, errW_some] <;> rfl) | (simp [*, errW_none, errW_some] <;> rfl), by repeat (first | (with_reducible first | exact HB.out | apply below_alloc | apply pw_below_drewN | apply below_drew1) | exact HB.out)⟩
       ·replace c19 := Bool.eq_false_iff.mpr c19
        subst c19
        have H1 : (some false) = some r := by rw [if_neg (show ¬ (false = true) by decide)] at H; exact H
        clear H
        have H := H1
        clear H1
        obtain rfl := Option.some.inj H
        go_wp2_with (first | ((with_reducible refine gate_callee (f := 27) rfl ?_); refine goesL_ (some 48) rfl rfl Tryd.func27 (by kernel_rfl) rfl #[.string t277] rfl (by (try simp only [List.map_toArray, List.map_cons, List.map_nil]); first | done | rfl | (simp only [List.length_drop, List.length_take]; rfl)) ?_; (with_reducible refine (impl_WordNormal.calls kj5 t277 t281 true _ A14.out).mono ?_); rintro e w35 ⟨rfl, hb⟩; refine ⟨_, rfl, ?_⟩; have n0_ := Aside0.mk (below_step (by repeat (first | (with_reducible first | exact HB.out | apply below_alloc | apply pw_below_drewN | apply below_drew1) | exact HB.out)) hb); clear HB; have HB := n0_; clear n0_; (try clear hb); (try clear hb2); (try clear hk); (try clear hi)) | ((with_reducible refine gate_callee (f := 32) rfl ?_); refine goesL_ (some 52) rfl rfl Tryd.func32 (by kernel_rfl) rfl #[.string t277] rfl (by (try simp only [List.map_toArray, List.map_cons, List.map_nil]); first | done | rfl | (simp only [List.length_drop, List.length_take]; rfl)) ?_; (with_reducible refine (impl_WordCorners.calls kj5 t277 t283 _ A15.out).mono ?_); rintro e w36 ⟨rfl, hb⟩; refine ⟨_, rfl, ?_⟩; have n0_ := Aside0.mk (below_step (by repeat (first | (with_reducible first | exact HB.out | apply below_alloc | apply pw_below_drewN | apply below_drew1) | exact HB.out)) hb); clear HB; have HB := n0_; clear n0_; (try clear hb); (try clear hb2); (try clear hk); (try clear hi)) | (go_at_call 15; (with_reducible refine (impl_WordSame.calls kj5 t277 t276 false _ A18.out).mono ?_); rintro e w37 ⟨rfl, hb⟩; have n0_ := Aside0.mk (below_step (by repeat (first | (with_reducible first | exact HB.out | apply below_alloc | apply pw_below_drewN | apply below_drew1) | exact HB.out)) hb); clear HB; have HB := n0_; clear n0_; (try clear hb); (try clear hb2); (try clear hk); (try clear hi)))
        go_ret
        exact ⟨by first | rfl | (simp [errW_none, errW_some] <;> rfl) | (simp [*, errW_none, errW_some] <;> rfl), by repeat (first | (with_reducible first | exact HB.out | apply below_alloc | apply pw_below_drewN | apply below_drew1) | exact HB.out)⟩
      ·rw [if_neg c17] at H
       have c17b0 : (t281.toList == t277.toList) = false := beq_eq_false_iff_ne.mpr c17
       have c17b1 : (t281.toList != t277.toList) = true := bne_iff_ne.mpr c17
       obtain rfl := Option.some.inj H
       go_wp2_with (first | ((with_reducible refine gate_callee (f := 27) rfl ?_); refine goesL_ (some 48) rfl rfl Tryd.func27 (by kernel_rfl) rfl #[.string t277] rfl (by (try simp only [List.map_toArray, List.map_cons, List.map_nil]); first | done | rfl | (simp only [List.length_drop, List.length_take]; rfl)) ?_; (with_reducible refine (impl_WordNormal.calls kj5 t277 t281 true _ A14.out).mono ?_); rintro e w38 ⟨rfl, hb⟩; refine ⟨_, rfl, ?_⟩; have n0_ := Aside0.mk (below_step (by repeat (first | (with_reducible first | exact HB.out | apply below_alloc | apply pw_below_drewN | apply below_drew1) | exact HB.out)) hb); clear HB; have HB := n0_; clear n0_; (try clear hb); (try clear hb2); (try clear hk); (try clear hi)) | ((with_reducible refine gate_callee (f := 32) rfl ?_); refine goesL_ (some 52) rfl rfl Tryd.func32 (by kernel_rfl) rfl #[.string t277] rfl (by (try simp only [List.map_toArray, List.map_cons, List.map_nil]); first | done | rfl | (simp only [List.length_drop, List.length_take]; rfl)) ?_; (with_reducible refine (impl_WordCorners.calls kj5 t277 t283 _ A15.out).mono ?_); rintro e w39 ⟨rfl, hb⟩; refine ⟨_, rfl, ?_⟩; have n0_ := Aside0.mk (below_step (by repeat (first | (with_reducible first | exact HB.out | apply below_alloc | apply pw_below_drewN | apply below_drew1) | exact HB.out)) hb); clear HB; have HB := n0_; clear n0_; (try clear hb); (try clear hb2); (try clear hk); (try clear hi)))
       go_ret
       exact ⟨by first | rfl | (simp [errW_none, errW_some] <;> rfl) | (simp [*, errW_none, errW_some] <;> rfl), by repeat (first | (with_reducible first | exact HB.out | apply below_alloc | apply pw_below_drewN | apply below_drew1) | exact HB.out)⟩
     ·replace c16 := Bool.eq_false_iff.mpr c16
      subst c16
      have H1 : (some false) = some r := by rw [if_neg (show ¬ (false = true) by decide)] at H; exact H
      clear H
      have H := H1
      clear H1
      obtain rfl := Option.some.inj H
      go_wp2_with (first | ((with_reducible refine gate_callee (f := 27) rfl ?_); refine goesL_ (some 48) rfl rfl Tryd.func27 (by kernel_rfl) rfl #[.string t277] rfl (by (try simp only [List.map_toArray, List.map_cons, List.map_nil]); first | done | rfl | (simp only [List.length_drop, List.length_take]; rfl)) ?_; (with_reducible refine (impl_WordNormal.calls kj5 t277 t281 false _ A14.out).mono ?_); rintro e w40 ⟨rfl, hb⟩; refine ⟨_, rfl, ?_⟩; have n0_ := Aside0.mk (below_step (by repeat (first | (with_reducible first | exact HB.out | apply below_alloc | apply pw_below_drewN | apply below_drew1) | exact HB.out)) hb); clear HB; have HB := n0_; clear n0_; (try clear hb); (try clear hb2); (try clear hk); (try clear hi)) | ((with_reducible refine gate_callee (f := 32) rfl ?_); refine goesL_ (some 52) rfl rfl Tryd.func32 (by kernel_rfl) rfl #[.string t277] rfl (by (try simp only [List.map_toArray, List.map_cons, List.map_nil]); first | done | rfl | (simp only [List.length_drop, List.length_take]; rfl)) ?_; (with_reducible refine (impl_WordCorners.calls kj5 t277 t283 _ A15.out).mono ?_); rintro e w41 ⟨rfl, hb⟩; refine ⟨_, rfl, ?_⟩; have n0_ := Aside0.mk (below_step (by repeat (first | (with_reducible first | exact HB.out | apply below_alloc | apply pw_below_drewN | apply below_drew1) | exact HB.out)) hb); clear HB; have HB := n0_; clear n0_; (try clear hb); (try clear hb2); (try clear hk); (try clear hi)))
      go_ret
      exact ⟨by first | rfl | (simp [errW_none, errW_some] <;> rfl) | (simp [*, errW_none, errW_some] <;> rfl), by repeat (first | (with_reducible first | exact HB.out | apply below_alloc | apply pw_below_drewN | apply below_drew1) | exact HB.out)⟩

/-- THE ONE PURE STATEMENT of laws_FnNormal: yours. -/
def laws_FnNormal.Pure : Prop := ∀ (l0 : List Int), l0.length ≤ maxLen → l0.length * 1 ≤ 140737488351232 → (∀ x ∈ l0, (Lit.int .u8 x).wf = true) → ∃ k, laws_FnNormal.f k l0 = some true
theorem laws_FnNormal.walk (P : laws_FnNormal.Pure) (a0 : Option Addr) (len0 cap0 : Nat) (z0 : List Int) (w : World) (w0 : (a0 = none ∧ len0 = 0 ∧ cap0 = 0 ∧ z0 = []) ∨ ∃ x, a0 = some x ∧ len0 ≤ cap0 ∧ cap0 ≤ maxLen ∧ z0.length = cap0 ∧ (∀ i, i < z0.length → w.cell? (x.add i) = some (.int .u8 (z0.getD i 0))) ∧ ∀ n ∈ z0, (Lit.int .u8 n).wf = true) (y0 : len0 * 1 ≤ 140737488351232) :
  Calls Tryd.prog 9 #[.slice a0 len0 cap0] w fun e w' => e = .returned (.bool true) ∧ Below w.heap.size w w' := by
 obtain ⟨l0, rfl, hr0, hm0, hw0, hc0⟩ := ReadsInt.ofRowC w0
 obtain ⟨k, h⟩ := P l0 hm0 y0 hw0
 refine (laws_FnNormal.calls k _ _ l0 true w (Kd.C_of_reads (d := (0 : Int)) (h1 := fun _ => rfl) hr0) hc0 h).mono ?_
 rintro e w' ⟨rfl, hd⟩
 exact ⟨rfl, hd⟩

end Go.Proofs.YtpfnchjbbagmdaaDoor.PFnNormal
