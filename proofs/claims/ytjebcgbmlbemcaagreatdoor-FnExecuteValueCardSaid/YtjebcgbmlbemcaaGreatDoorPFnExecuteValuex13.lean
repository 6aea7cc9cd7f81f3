-- Made by a program of this session (wip/tools) out of the loaded program; not trusted: Lean checks it.
import Derived.Test.YtjebcgbmlbemcaaGreatDoorPFnExecuteValuex0
import Derived.Test.YtjebcgbmlbemcaaGreatDoorPFnExecuteValuex7
import Derived.Test.YtjebcgbmlbemcaaGreatDoorPFnExecuteValuex8
import Derived.Test.YtjebcgbmlbemcaaGreatDoorPFnExecuteValuex10
import Derived.Test.YtjebcgbmlbemcaaGreatDoorPFnExecuteValuex12
-- packed
namespace Go.Proofs.YtjebcgbmlbemcaaGreatDoor.PFnExecuteValue
open Go.RowKit Go.Proofs.YtjebcgbmlbemcaaGreatDoorW.PrintWords Go.Proofs.YtjebcgbmlbemcaaGreatDoorW.PrintLast Go.Proofs.YtjebcgbmlbemcaaGreatDoorW.PrintMore
attribute [local go_sem] max2_int min2_int max_two min_two max_three min_three max_four min_four   -- for this text's walks alone
set_option linter.unusedVariables false
set_option linter.unusedSimpArgs false

/-! ### spec_RibbonValue: function 16 -/
mutual
def spec_RibbonValue.j0 : Nat → Int → Int → Int → Bool → List Int → List Int → Option (Int)
  | 0, _, _, _, _, _, _ => none
  | k + 1, x1, x2, x3, x30, x462000, x462001 => if x30 = true then (some (-1)) else ((spec_l7All.f k (wrap64 ((x462001.length : Int) / 2))).bind fun t466 => (spec_RibbonValue.l0 k x1 x2 x3 0 t466 0 x462000 x462001))
def spec_RibbonValue.l0 : Nat → Int → Int → Int → Int → List (List Int) → Int → List Int → List Int → Option (Int)
  | 0, _, _, _, _, _, _, _, _ => none
  | k + 1, x1, x2, x3, x9, x10, x11, x462000, x462001 => if x11 < (x10.length : Int) then (if 0 ≤ x11 then ((spec_l7Counts.f k x462000 x462001 (rd_L1 x10 x11)).bind fun t470 => (if 0 < (t470.length : Int) then ((spec_l7Power.f k x1 (wrap64 ((rd t470 0) - 1))).bind fun t474 => (if 3 < (t470.length : Int) then ((spec_l7Power.f k x2 (rd t470 3)).bind fun t476 => (if 4 < (t470.length : Int) then ((spec_l7Power.f k x3 (rd t470 4)).bind fun t478 => (spec_RibbonValue.l0 k x1 x2 x3 (wrap64 (x9 + (wrap64 ((wrap64 (t474 * t476)) * t478)))) x10 (wrap64 (x11 + 1)) x462000 x462001)) else (none))) else (none))) else (none))) else (none)) else (some x9)
end
def spec_RibbonValue.f (k : Nat) (l0_0 : List Int) (l0_1 : List Int) (a1 : Int) (a2 : Int) (a3 : Int) : Option (Int) := (spec_MapValid.f k l0_0 l0_1).bind fun t462 => (if t462 = true then ((spec_l6In.f a1 0 3).bind fun t463 => (if t463 = true then ((spec_l6In.f a2 0 3).bind fun t464 => (if t464 = true then ((spec_l6In.f a3 0 3).bind fun t465 => (spec_RibbonValue.j0 k a1 a2 a3 (!t465) l0_0 l0_1)) else (spec_RibbonValue.j0 k a1 a2 a3 true l0_0 l0_1))) else (spec_RibbonValue.j0 k a1 a2 a3 true l0_0 l0_1))) else (spec_RibbonValue.j0 k a1 a2 a3 true l0_0 l0_1))
def spec_RibbonValue.T9 : Bool × List (List Nat × List Nat) := (true, [([], []), ([], []), ([], []), ([2], [2]), ([3], [3]), ([4], [4]), ([1, 5], [1, 5]), ([], []), ([], []), ([8], [8]), ([9], [9]), ([7, 10, 6], [7, 10]), ([6, 11], [6, 11]), ([], []), ([], []), ([14], [14]), ([15], [15]), ([13, 16, 11], [13, 16]), ([12, 17], [12, 17]), ([0, 18], [0, 18]), ([19, 17, 0, 1, 2, 3, 4, 5, 6, 7, 8, 9, 10, 11, 12, 13, 14, 15, 16, 17, 18, 19], [0, 19])])
def spec_RibbonValue.B9 : List Nat := [0, 0, 0, 4, 12, 28, 62, 0, 0, 256, 768, 2046, 4094, 0, 0, 16384, 49152, 126974, 262142, 524287, 1048575]
theorem spec_RibbonValue.tab9 : rtab .any (opsOf Tryz.f16 9) = spec_RibbonValue.T9 := by kernel_rfl
theorem spec_RibbonValue.bits9 : waitsOk spec_RibbonValue.T9.2 spec_RibbonValue.B9 = true := by kernel_rfl
set_option maxHeartbeats 8000000 in
set_option maxRecDepth 100000 in
theorem spec_RibbonValue.calls (k : Nat) (A0_0 : Option Addr) (c0_0 : Nat) (l0_0 : List Int) (A0_1 : Option Addr) (c0_1 : Nat) (l0_1 : List Int) (a1 : Int) (a2 : Int) (a3 : Int) (r : Int) (w : World) (hr0_0 : Kd.C (Kd.int .i64) w A0_0 l0_0.length l0_0) (hc0_0 : l0_0.length ≤ c0_0) (hr0_1 : Kd.C (Kd.int .i64) w A0_1 l0_1.length l0_1) (hc0_1 : l0_1.length ≤ c0_1) (h : spec_RibbonValue.f k l0_0 l0_1 a1 a2 a3 = some r) :
    Calls Tryz.prog 16 #[.agg #[.slice A0_0 l0_0.length c0_0, .slice A0_1 l0_1.length c0_1], .int .i64 a1, .int .i64 a2, .int .i64 a3] w fun e w' => e = .returned (.int .i64 r) ∧ Below w.heap.size w w' := by
 have hu25 := Tryz.underlying25; have HR0_0 := A0_ hr0_0; have HC0_0 := A0_ hc0_0; clear hr0_0 hc0_0; have HR0_1 := A0_ hr0_1; have HC0_1 := A0_ hc0_1; clear hr0_1 hc0_1
 have HB := A0_ (Below.refl w.heap.size w)
 have H : ((spec_MapValid.f k l0_0 l0_1).bind fun t462 => (if t462 = true then ((spec_l6In.f a1 0 3).bind fun t463 => (if t463 = true then ((spec_l6In.f a2 0 3).bind fun t464 => (if t464 = true then ((spec_l6In.f a3 0 3).bind fun t465 => (spec_RibbonValue.j0 k a1 a2 a3 (!t465) l0_0 l0_1)) else (spec_RibbonValue.j0 k a1 a2 a3 true l0_0 l0_1))) else (spec_RibbonValue.j0 k a1 a2 a3 true l0_0 l0_1))) else (spec_RibbonValue.j0 k a1 a2 a3 true l0_0 l0_1))) = some r := h
 clear h; have HC5 := A0_ H; clear H
 go_enter Tryz.func16, Tryz.ntmps16
 go_upto_region 1 with (first | ((with_reducible refine gD (N := 4) rfl ?_); refine zX (N := 4) (cs := #[.slice A0_0 l0_0.length c0_0, .slice A0_1 l0_1.length c0_1]) (t := 25) ?_; intro gb461 hg w6 hbox hb; have BK461 := A0_ (hbox); have GW461 := zG hg HB; have GE461 := zG hg HB; replace HB := zB HB hb; clear hb hbox hg))
 (try simp only [Act.put, List.setIfInBounds_toArray, List.set_cons_zero, List.set_cons_succ])
 go_cut [30] (fun v30 wc => ∃ (kq : Nat) (x30_4 : Bool), v30 = .bool x30_4 ∧ Aside0 (spec_RibbonValue.j0 kq a1 a2 a3 x30_4 l0_0 l0_1 = some r) ∧ Aside0 (kq ≤ k) ∧ Aside0 (wc.heap[gb461]? = some (.cells #[(.slice A0_0 l0_0.length c0_0), (.slice A0_1 l0_1.length c0_1)] 25 (0, 0))) ∧ Aside0 (Below w.heap.size w wc))
 case first =>
  have H := HC5.out; clear HC5; obtain ⟨t462, A7, H⟩ := zbind H
  by_cases c8 : t462 = true
  ·subst c8
   rw [if_pos rfl] at H; obtain ⟨t463, A9, H⟩ := zbind H
   by_cases c10 : t463 = true
   ·subst c10
    rw [if_pos rfl] at H; obtain ⟨t464, A11, H⟩ := zbind H
    by_cases c12 : t464 = true
    ·subst c12
     rw [if_pos rfl] at H; obtain ⟨t465, A13, H⟩ := zbind H; have H' := A0_ H; clear H; have hcz14_0 := zc0 BK461; have hcz14_1 := zc1 BK461; have hfz14_0 := kF BK461.out 0; have hfz14_1 := kF BK461.out 1
     go_wp2_with (first | ((with_reducible refine gC (f := 27) rfl ?_); refine zJ (some 14) Tryz.func27 #[.agg #[.slice A0_0 l0_0.length c0_0, .slice A0_1 l0_1.length c0_1]] ?_; (with_reducible refine (spec_MapValid.calls k _ _ l0_0 _ _ l0_1 true _ ?side1 ?side2 ?side3 ?side4 A7.out).mono ?_); (case side1 => exact zC HR0_0 HB); (case side2 => exact HC0_0.out); (case side3 => exact zC HR0_1 HB); (case side4 => exact HC0_1.out); rintro e w15 ⟨rfl, hb⟩; refine ⟨_, rfl, ?_⟩; replace BK461 := zK BK461 hb; replace HB := zB HB hb; (try clear hb)) | (go_at_call 42; (with_reducible refine (spec_l6In.calls a1 0 3 true _ A9.out).mono ?_); rintro e w' ⟨rfl, ⟨nd, rfl⟩⟩) | (go_at_call 42; (with_reducible refine (spec_l6In.calls a2 0 3 true _ A11.out).mono ?_); rintro e w' ⟨rfl, ⟨nd, rfl⟩⟩) | (go_at_call 42; (with_reducible refine (spec_l6In.calls a3 0 3 t465 _ A13.out).mono ?_); rintro e w' ⟨rfl, ⟨nd, rfl⟩⟩))
     go_meet
     case rel => exact ⟨_, (!t465), zt, H', zo, ⟨zK_ BK461⟩, ⟨zB_ HB⟩⟩
    replace c12 := Bool.eq_false_iff.mpr c12; subst c12
    rw [if_neg (show ¬ (false = true) by decide)] at H
    have H' := A0_ H; clear H; have hcz16_0 := zc0 BK461; have hcz16_1 := zc1 BK461; have hfz16_0 := kF BK461.out 0; have hfz16_1 := kF BK461.out 1
    go_wp2_with (first | ((with_reducible refine gC (f := 27) rfl ?_); refine zJ (some 14) Tryz.func27 #[.agg #[.slice A0_0 l0_0.length c0_0, .slice A0_1 l0_1.length c0_1]] ?_; (with_reducible refine (spec_MapValid.calls k _ _ l0_0 _ _ l0_1 true _ ?side1 ?side2 ?side3 ?side4 A7.out).mono ?_); (case side1 => exact zC HR0_0 HB); (case side2 => exact HC0_0.out); (case side3 => exact zC HR0_1 HB); (case side4 => exact HC0_1.out); rintro e w17 ⟨rfl, hb⟩; refine ⟨_, rfl, ?_⟩; replace BK461 := zK BK461 hb; replace HB := zB HB hb; (try clear hb)) | (go_at_call 42; (with_reducible refine (spec_l6In.calls a1 0 3 true _ A9.out).mono ?_); rintro e w' ⟨rfl, ⟨nd, rfl⟩⟩) | (go_at_call 42; (with_reducible refine (spec_l6In.calls a2 0 3 false _ A11.out).mono ?_); rintro e w' ⟨rfl, ⟨nd, rfl⟩⟩))
    go_meet
    case rel => exact ⟨_, (true), zt, H', zo, ⟨zK_ BK461⟩, ⟨zB_ HB⟩⟩
   replace c10 := Bool.eq_false_iff.mpr c10; subst c10
   rw [if_neg (show ¬ (false = true) by decide)] at H
   have H' := A0_ H; clear H; have hcz18_0 := zc0 BK461; have hcz18_1 := zc1 BK461; have hfz18_0 := kF BK461.out 0; have hfz18_1 := kF BK461.out 1
   go_wp2_with (first | ((with_reducible refine gC (f := 27) rfl ?_); refine zJ (some 14) Tryz.func27 #[.agg #[.slice A0_0 l0_0.length c0_0, .slice A0_1 l0_1.length c0_1]] ?_; (with_reducible refine (spec_MapValid.calls k _ _ l0_0 _ _ l0_1 true _ ?side1 ?side2 ?side3 ?side4 A7.out).mono ?_); (case side1 => exact zC HR0_0 HB); (case side2 => exact HC0_0.out); (case side3 => exact zC HR0_1 HB); (case side4 => exact HC0_1.out); rintro e w19 ⟨rfl, hb⟩; refine ⟨_, rfl, ?_⟩; replace BK461 := zK BK461 hb; replace HB := zB HB hb; (try clear hb)) | (go_at_call 42; (with_reducible refine (spec_l6In.calls a1 0 3 false _ A9.out).mono ?_); rintro e w' ⟨rfl, ⟨nd, rfl⟩⟩))
   go_meet
   case rel => exact ⟨_, (true), zt, H', zo, ⟨zK_ BK461⟩, ⟨zB_ HB⟩⟩
  replace c8 := Bool.eq_false_iff.mpr c8; subst c8
  rw [if_neg (show ¬ (false = true) by decide)] at H
  have H' := A0_ H; clear H; have hcz20_0 := zc0 BK461; have hcz20_1 := zc1 BK461; have hfz20_0 := kF BK461.out 0; have hfz20_1 := kF BK461.out 1
  go_wp2_with (first | ((with_reducible refine gC (f := 27) rfl ?_); refine zJ (some 14) Tryz.func27 #[.agg #[.slice A0_0 l0_0.length c0_0, .slice A0_1 l0_1.length c0_1]] ?_; (with_reducible refine (spec_MapValid.calls k _ _ l0_0 _ _ l0_1 false _ ?side1 ?side2 ?side3 ?side4 A7.out).mono ?_); (case side1 => exact zC HR0_0 HB); (case side2 => exact HC0_0.out); (case side3 => exact zC HR0_1 HB); (case side4 => exact HC0_1.out); rintro e w21 ⟨rfl, hb⟩; refine ⟨_, rfl, ?_⟩; replace BK461 := zK BK461 hb; replace HB := zB HB hb; (try clear hb)))
  go_meet
  case rel => exact ⟨_, (true), zt, H', zo, ⟨zK_ BK461⟩, ⟨zB_ HB⟩⟩
 case rest =>
  clear HC5; (try clear c1); (try clear c2); (try clear p2); (try clear c8); (try clear c10); (try clear c12); (try clear c16); (try clear hcz14_0); (try clear hcz14_1); (try clear hcz16_0); (try clear hcz16_1); (try clear hcz18_0); (try clear hcz18_1); (try clear hcz20_0); (try clear hcz20_1); (try clear hfz14_0); (try clear hfz14_1); (try clear hfz16_0); (try clear hfz16_1); (try clear hfz18_0); (try clear hfz18_1); (try clear hfz20_0); (try clear hfz20_1); obtain ⟨kq, x30_4, rfl, HA, HJ4, BK461, HB⟩ := hcut
  cases kq with
  | zero => exact absurd HA.out (by simp [spec_RibbonValue.j0])
  | succ kj4 =>
   have H := HA.out; clear HA; simp only [spec_RibbonValue.j0] at H
   by_cases c22 : x30_4 = true
   ·subst c22
    rw [if_pos rfl] at H; obtain rfl := sI H
    go_wp2
    go_ret
    exact ⟨by first | rfl | (simp [*] <;> rfl), zB_ HB⟩
   replace c22 := Bool.eq_false_iff.mpr c22; subst c22
   rw [if_neg (show ¬ (false = true) by decide)] at H
   obtain ⟨t466, A23, H⟩ := zbind H; have H' := A0_ H; clear H; have hcz24_0 := zc0 BK461; have hcz24_1 := zc1 BK461; have hfz24_0 := kF BK461.out 0; have hfz24_1 := kF BK461.out 1
   go_wp2_with (first | ((with_reducible refine gC (f := 43) rfl ?_); refine zJ (some 35) Tryz.func43 #[.int .i64 (wrap64 ((l0_1.length : Int) / 2))] ?_; (with_reducible refine (spec_l7All.calls kj4 (wrap64 ((l0_1.length : Int) / 2)) t466 _ A23.out).mono ?_); rintro e w25 ⟨v467, rfl, ho0, hb⟩; refine ⟨_, rfl, ?_⟩; have HO468 := A0_ (Kd.N_lower (Kd.N_mono (ok' := fun k_ => k_ ≠ gb461) ho0 (fun k_ hk_ => (Kd.freshB (g := gb461) (o := .cells #[.slice A0_0 l0_0.length c0_0, .slice A0_1 l0_1.length c0_1] 25 (0, 0)) (zK_ BK461) k_ hk_))) (bZ (zB_ HB))); replace BK461 := zK BK461 hb; replace HB := zB HB hb; (try clear hb); (try clear ho0)))
   go_loopg [9, 11] kj4 (fun kq v9 v11 w' => ∃ (x9_2 : Int) (x11_2 : Int), v9 = .int .i64 x9_2 ∧ v11 = .int .i64 x11_2 ∧ Aside0 (spec_RibbonValue.l0 kq a1 a2 a3 x9_2 t466 x11_2 l0_0 l0_1 = some r) ∧ Aside0 (kq ≤ kj4) ∧ Aside0 (Kd.N (Kd.slice 3 (Kd.int .i64)) 23 w' w.heap.size (fun k_ => k_ ≠ gb461) v467 t466) ∧ Aside0 (w'.heap[gb461]? = some (.cells #[(.slice A0_0 l0_0.length c0_0), (.slice A0_1 l0_1.length c0_1)] 25 (0, 0))) ∧ Aside0 (Below w.heap.size w w'))
   case atStart => exact ⟨(0), (0), zt, zt, H', ⟨Nat.le_refl _⟩, ⟨by (with_reducible repeat (first | apply Kd.N_alloc | apply Kd.N_drewN | apply Kd.N_drew)); exact HO468.out⟩, ⟨zK_ BK461⟩, ⟨zB_ HB⟩⟩
   case round =>
    clear H'; (try clear c1); (try clear c2); (try clear p2); (try clear c4); (try clear p6); (try clear c8); (try clear c10); (try clear c12); (try clear c16); (try clear c22); (try clear hcz14_0); (try clear hcz14_1); (try clear hcz16_0); (try clear hcz16_1); (try clear hcz18_0); (try clear hcz18_1); (try clear hcz20_0); (try clear hcz20_1); (try clear hcz24_0); (try clear hcz24_1); (try clear hfz14_0); (try clear hfz14_1); (try clear hfz16_0); (try clear hfz16_1); (try clear hfz18_0); (try clear hfz18_1); (try clear hfz20_0); (try clear hfz20_1); (try clear hfz24_0); (try clear hfz24_1); (try clear p2); obtain ⟨x9_2, x11_2, rfl, rfl, HA, HK2, HO_10, BK461, HB⟩ := hrel
    cases gk with
    | zero => exact absurd HA.out (by simp [spec_RibbonValue.l0])
    | succ k2 =>
     have H := HA.out; clear HA; simp only [spec_RibbonValue.l0] at H
     by_cases c26 : x11_2 < (t466.length : Int)
     ·rw [if_pos c26] at H
      have c26b0 := dT c26; clear c26
      by_cases c27 : 0 ≤ x11_2
      ·rw [if_pos c27] at H
       have c27b0 := dT c27; clear c27; obtain ⟨t470, A28, H⟩ := zbind H
       by_cases c29 : 0 < (t470.length : Int)
       ·rw [if_pos c29] at H
        have c29b0 := dT c29
        have c29b1 : decide (0 < t470.length) = true := dT (by omega)
        clear c29; obtain ⟨t474, A30, H⟩ := zbind H
        by_cases c31 : 3 < (t470.length : Int)
        ·rw [if_pos c31] at H
         have c31b0 := dT c31
         have c31b1 : decide (3 < t470.length) = true := dT (by omega)
         clear c31; obtain ⟨t476, A32, H⟩ := zbind H
         by_cases c33 : 4 < (t470.length : Int)
         ·rw [if_pos c33] at H
          have c33b0 := dT c33
          have c33b1 : decide (4 < t470.length) = true := dT (by omega)
          clear c33; obtain ⟨t478, A34, H⟩ := zbind H; have H' := A0_ H; clear H; obtain ⟨Ao35, co35, eo35⟩ := Kd.N_slice HO_10.out; subst eo35
          try go_wp2
          replace HO_10 := A0_ (Kd.N_drew HO_10.out)
          replace BK461 := A0_ (kD BK461.out)
          replace HB := A0_ (bD HB.out)
          have p469 : 0 ≤ (x11_2 : Int) := zd
          have q469 : x11_2 < (t466.length : Int) := zd
          obtain ⟨ad469, A469_0, c469_0, e469, hx469_0, hl469_0, hi469_0⟩ := at_L1 (Kd.N_reads' HO_10.out).2.2 x11_2 p469 q469
          cases e469
          obtain ⟨ce469, hce469, hMe469, hcc469⟩ := Kd.N_get HO_10.out [] x11_2 p469 (by first | exact q469 | exact zd | (have e_ := (Kd.N_reads' HO_10.out).1; omega))
          obtain ⟨ua469_0, uc469_0, rfl, ul469_0, ge469_0⟩ := Kd.FK_slice_open hMe469; have hv469_0 := hcc469 0 _ rfl
          rw [Nat.add_zero, show ((Kd.slice 3 (Kd.int .i64))).sz = 1 from rfl, Nat.mul_one] at hv469_0
          replace hv469_0 := sI (hv469_0.symm.trans hx469_0)
          injection hv469_0 with hva_ hvn_ hvc_
          rw [hva_] at ge469_0; rw [hvc_] at ul469_0
          have HL469_0 := A0_ (show Kd.V (Kd.int .i64) 3 _ w.heap.size _ _ (rd_L1 t466 x11_2) from Kd.V_mk ul469_0 ge469_0)
          clear hva_ hvn_ hvc_ ge469_0 ul469_0 hcc469 hce469; have HR469_0 := A0_ hi469_0; have HC469_0 := A0_ hl469_0; clear hi469_0 hl469_0; replace p469 := eq_true p469; replace q469 := eq_true q469
          refine start_ (n := 7) (S := fun w' => w'.cell? ⟨gb461, 0, none⟩ = some (.slice A0_0 l0_0.length c0_0) ∧ w'.cell? ⟨gb461, 1, none⟩ = some (.slice A0_1 l0_1.length c0_1) ∧ w'.cell? (ad469.add (x11_2).toNat) = some (.slice A469_0 (rd_L1 t466 x11_2).length c469_0)) (ds := []) #[false, false, false, false, false, false, false] (by kernel_rfl) rfl rfl ⟨(kC BK461.out 0).trans rfl, (kC BK461.out 1).trans rfl, hx469_0⟩ (fun hHeld => ?_)
          generalize wr.drew = w36 at HO_10 BK461 HB HL469_0 HR469_0 hx469_0 hHeld ⊢
          refine pure_ (i := 1) (N := some 43) (v := ?_) (a' := ?_) #[false, true, false, false, false, false, false] rfl rfl (by kernel_rfl) (fun _ _ _ h => h) (Or.inl ⟨by rfl, ?_⟩) ?_ ?_
          rotate_left
          ·intro w'
           go_simp
           with_reducible rfl
          rotate_left
          ·simp only [Act.put, List.setIfInBounds_toArray, List.set_cons_zero, List.set_cons_succ, i64_w, i32_w]
           rfl
          refine pure_ (i := 2) (N := some 44) (v := ?_) (a' := ?_) #[false, true, true, false, false, false, false] rfl rfl (by kernel_rfl) (fun _ _ _ h => h) (Or.inl ⟨by rfl, ?_⟩) ?_ ?_
          rotate_left
          ·intro w'
           go_simp
           with_reducible rfl
          rotate_left
          ·simp only [Act.put, List.setIfInBounds_toArray, List.set_cons_zero, List.set_cons_succ, i64_w, i32_w]
           rfl
          refine pure_ (i := 3) (N := some 45) (v := ?_) (a' := ?_) #[false, true, true, true, false, false, false] rfl rfl (by kernel_rfl) (fun _ _ _ h => h) (Or.inl ⟨by rfl, ?_⟩) ?_ ?_
          rotate_left
          ·intro w'
           go_simp
           with_reducible rfl
          rotate_left
          ·simp only [Act.put, List.setIfInBounds_toArray, List.set_cons_zero, List.set_cons_succ, i64_w, i32_w]
           rfl
          refine take_ (i := 0) (N := some 42) (v := ?_) (a' := ?_) #[true, true, true, true, false, false, false] rfl rfl (by kernel_rfl) (fun _ _ _ h => h) (Or.inl ⟨by rfl, ?_⟩) hHeld ?_ ?_
          rotate_left
          ·rintro w' ⟨s0, s1, s2⟩
           go_simp
           with_reducible rfl
          rotate_left
          ·simp only [Act.put, List.setIfInBounds_toArray, List.set_cons_zero, List.set_cons_succ, i64_w, i32_w]
           rfl
          refine take_ (i := 4) (N := some 46) (v := ?_) (a' := ?_) #[true, true, true, true, true, false, false] rfl rfl (by kernel_rfl) (fun _ _ _ h => h) (Or.inl ⟨by rfl, ?_⟩) hHeld ?_ ?_
          rotate_left
          ·rintro w' ⟨s0, s1, s2⟩
           go_simp
           with_reducible rfl
          rotate_left
          ·simp only [Act.put, List.setIfInBounds_toArray, List.set_cons_zero, List.set_cons_succ, i64_w, i32_w]
           rfl
          refine one_ (i := 5) (N := some 47) #[true, true, true, true, true, true, false] rfl rfl (by kernel_rfl) (by decide) (fun K hK => ?_)
          refine goes_ Tryz.func44 (by kernel_rfl) rfl #[.agg #[.slice A0_0 l0_0.length c0_0, .slice A0_1 l0_1.length c0_1], .slice A469_0 (rd_L1 t466 x11_2).length c469_0] (by rfl) rfl rfl (by (try simp only [List.map_toArray, List.map_cons, List.map_nil]); first | done | rfl | (simp only [List.length_drop, List.length_take]; rfl)) ?_
          with_reducible refine (spec_l7Counts.calls k2 _ _ l0_0 _ _ l0_1 _ _ (rd_L1 t466 x11_2) t470 _ ?side1 ?side2 ?side3 ?side4 ?side5 ?side6 A28.out).mono ?_
          (case side1 => exact zC HR0_0 HB)
          (case side2 => exact HC0_0.out)
          (case side3 => exact zC HR0_1 HB)
          (case side4 => exact HC0_1.out)
          (case side5 => repeat (first | exact (by repeat (first | (with_reducible exact HR469_0.out) | (with_reducible refine cA ?_ _) | (with_reducible refine cN ?_ _) | (with_reducible refine cD ?_) | exact HR469_0.out)) | (with_reducible refine cA ?_ _) | (with_reducible refine cN ?_ _) | (with_reducible refine cD ?_)))
          (case side6 => exact HC469_0.out)
          rintro e w37 ⟨v471, rfl, ho0, hb⟩
          have HS2_ := (hb.cell (wL _ _ (hHeld.2.2))).trans (hHeld.2.2)
          refine ⟨_, rfl, ?_⟩
          replace HO_10 := A0_ (Kd.N_elder' (by (with_reducible repeat (first | apply Kd.N_alloc | apply Kd.N_drewN | apply Kd.N_drew)); exact HO_10.out) (Kd.R_base ho0) hb)
          replace HL469_0 := A0_ (Kd.V_elder' (by (with_reducible repeat (first | apply Kd.V_alloc | apply Kd.V_drewN | apply Kd.V_drew)); exact HL469_0.out) (Kd.R_base ho0) hb)
          have HO472 := A0_ (rL ho0 (bZ (zB_ HB)))
          replace BK461 := zK BK461 hb
          replace HR469_0 := A0_ (cB (by repeat (first | (with_reducible exact HR469_0.out) | (with_reducible refine cA ?_ _) | (with_reducible refine cN ?_ _) | (with_reducible refine cD ?_) | exact HR469_0.out)) hb)
          replace HB := zB HB hb; (try clear hb); (try clear hb2); (try clear hk); (try clear hi); (try clear ho0)
          refine hK.out _ _ ⟨(kC BK461.out 0).trans rfl, (kC BK461.out 1).trans rfl, HS2_⟩ (fun hHeld => ?_)
          clear hK K
          refine norm_ (a' := ?_) ?_ ?_
          rotate_left
          ·show Act.put _ (some 47) _ = _
           simp only [Act.put, List.setIfInBounds_toArray, List.set_cons_zero, List.set_cons_succ, i64_w, i32_w]
           rfl
          refine pure_ (i := 6) (N := some 12) (v := ?_) (a' := ?_) #[true, true, true, true, true, true, true] rfl rfl (by kernel_rfl) (fun _ _ _ h => h) (Or.inl ⟨by rfl, ?_⟩) ?_ ?_
          rotate_left
          ·intro w'
           go_simp
           with_reducible rfl
          rotate_left
          ·simp only [Act.put, List.setIfInBounds_toArray, List.set_cons_zero, List.set_cons_succ, i64_w, i32_w]
           rfl
          refine done_ (by kernel_rfl) ?_
          try go_wp2
          replace HO_10 := A0_ (Kd.N_drew HO_10.out)
          replace HL469_0 := A0_ (Kd.V_drew HL469_0.out)
          replace HO472 := A0_ (rD HO472.out)
          replace BK461 := A0_ (kD BK461.out)
          replace HR469_0 := A0_ (cD HR469_0.out)
          replace HB := A0_ (bD HB.out)
          obtain ⟨Ao39, co39, eo39⟩ := rS HO472.out
          (first | subst eo39 | (injection eo39 with f1_ f2_ f3_; have f4_ := f1_.symm; have f5_ := f3_.symm; clear f1_ f2_ f3_; subst f4_; subst f5_))
          have p473 : 0 ≤ (0 : Int) := (by omega)
          have q473 : 0 < (t470.length : Int) := zd
          obtain ⟨ad473, e473, hx473_0⟩ := tI (rR HO472.out).2.2 0 p473 q473
          cases e473
          have qi473 : (0 < t470.length) = True := eq_true (by omega)
          (try rw [show ((0 : Int)).toNat = 0 from rfl] at hx473_0)
          (try rw [Addr.add_zero'] at hx473_0)
          replace p473 := eq_true p473; replace q473 := eq_true q473
          have p475 : 0 ≤ (3 : Int) := (by omega)
          have q475 : 3 < (t470.length : Int) := zd
          obtain ⟨ad475, e475, hx475_0⟩ := tI (rR HO472.out).2.2 3 p475 q475
          obtain rfl : ad473 = ad475 := (by injection e475)
          (try simp only [show (3 : Int).toNat = 3 from rfl, Nat.reduceMul, Nat.reduceEqDiff, Go.Addr.add, ↓reduceIte] at hx475_0)
          have qi475 : (3 < t470.length) = True := eq_true (by omega)
          (try rw [show ((3 : Int)).toNat = 3 from rfl] at hx475_0)
          replace p475 := eq_true p475; replace q475 := eq_true q475
          have p477 : 0 ≤ (4 : Int) := (by omega)
          have q477 : 4 < (t470.length : Int) := zd
          obtain ⟨ad477, e477, hx477_0⟩ := tI (rR HO472.out).2.2 4 p477 q477
          obtain rfl : ad473 = ad477 := (by injection e477)
          (try simp only [show (4 : Int).toNat = 4 from rfl, Nat.reduceMul, Nat.reduceEqDiff, Go.Addr.add, ↓reduceIte] at hx477_0)
          have qi477 : (4 < t470.length) = True := eq_true (by omega)
          (try rw [show ((4 : Int)).toNat = 4 from rfl] at hx477_0)
          replace p477 := eq_true p477; replace q477 := eq_true q477
          refine start_ (n := 21) (S := fun w' => w'.cell? ad473 = some (.int .i64 (rd t470 0)) ∧ w'.cell? ⟨ad473.block, ad473.off + 3, none⟩ = some (.int .i64 (rd t470 3)) ∧ w'.cell? ⟨ad473.block, ad473.off + 4, none⟩ = some (.int .i64 (rd t470 4))) (ds := []) #[false, false, false, false, false, false, false, false, false, false, false, false, false, false, false, false, false, false, false, false, false] (by kernel_rfl) rfl rfl ⟨hx473_0, hx475_0, hx477_0⟩ (fun hHeld => ?_); refine with_tabW spec_RibbonValue.tab9 spec_RibbonValue.bits9 (fun HT_ HW_ => ?_)
          generalize w37.drew = w38 at HO_10 HL469_0 HO472 BK461 HR469_0 HB hx473_0 hx475_0 hx477_0 hHeld ⊢
          refine zP 0 (some 48) #[true,false,false,false,false,false,false,false,false,false,false,false,false,false,false,false,false,false,false,false,false] ?_
          refine zP 1 (some 49) #[true,true,false,false,false,false,false,false,false,false,false,false,false,false,false,false,false,false,false,false,false] ?_
          refine zP 2 (some 50) #[true,true,true,false,false,false,false,false,false,false,false,false,false,false,false,false,false,false,false,false,false] ?_
          refine zP 3 (some 51) #[true,true,true,true,false,false,false,false,false,false,false,false,false,false,false,false,false,false,false,false,false] ?_
          refine zP 7 (some 55) #[true,true,true,true,false,false,false,true,false,false,false,false,false,false,false,false,false,false,false,false,false] ?_
          refine zP 8 (some 56) #[true,true,true,true,false,false,false,true,true,false,false,false,false,false,false,false,false,false,false,false,false] ?_
          refine zP 9 (some 57) #[true,true,true,true,false,false,false,true,true,true,false,false,false,false,false,false,false,false,false,false,false] ?_
          refine zP 13 (some 61) #[true,true,true,true,false,false,false,true,true,true,false,false,false,true,false,false,false,false,false,false,false] ?_
          refine zP 14 (some 62) #[true,true,true,true,false,false,false,true,true,true,false,false,false,true,true,false,false,false,false,false,false] ?_
          refine zP 15 (some 63) #[true,true,true,true,false,false,false,true,true,true,false,false,false,true,true,true,false,false,false,false,false] ?_
          refine take_ (i := 4) (N := some 52) (v := ?_) (a' := ?_) #[true, true, true, true, true, false, false, true, true, true, false, false, false, true, true, true, false, false, false, false, false] rfl rfl (take_ofW HT_.out HW_.out (by kernel_rfl)) (fun _ _ _ h => h) (Or.inl ⟨by rfl, ?_⟩) hHeld ?_ ?_
          rotate_left
          ·rintro w' ⟨s0, s1, s2⟩
           go_simp
           with_reducible rfl
          rotate_left
          ·simp only [Act.put, List.setIfInBounds_toArray, List.set_cons_zero, List.set_cons_succ, i64_w, i32_w]
           rfl
          refine zP 5 (some 53) #[true,true,true,true,true,true,false,true,true,true,false,false,false,true,true,true,false,false,false,false,false] ?_
          refine take_ (i := 10) (N := some 58) (v := ?_) (a' := ?_) #[true, true, true, true, true, true, false, true, true, true, true, false, false, true, true, true, false, false, false, false, false] rfl rfl (take_ofW HT_.out HW_.out (by kernel_rfl)) (fun _ _ _ h => h) (Or.inl ⟨by rfl, ?_⟩) hHeld ?_ ?_
          rotate_left
          ·rintro w' ⟨s0, s1, s2⟩
           go_simp
           with_reducible rfl
          rotate_left
          ·simp only [Act.put, List.setIfInBounds_toArray, List.set_cons_zero, List.set_cons_succ, i64_w, i32_w]
           rfl
          refine take_ (i := 16) (N := some 64) (v := ?_) (a' := ?_) #[true, true, true, true, true, true, false, true, true, true, true, false, false, true, true, true, true, false, false, false, false] rfl rfl (take_ofW HT_.out HW_.out (by kernel_rfl)) (fun _ _ _ h => h) (Or.inl ⟨by rfl, ?_⟩) hHeld ?_ ?_
          rotate_left
          ·rintro w' ⟨s0, s1, s2⟩
           go_simp
           with_reducible rfl
          rotate_left
          ·simp only [Act.put, List.setIfInBounds_toArray, List.set_cons_zero, List.set_cons_succ, i64_w, i32_w]
           rfl
          refine one_ (i := 6) (N := some 54) #[true, true, true, true, true, true, true, true, true, true, true, false, false, true, true, true, true, false, false, false, false] rfl rfl (one_of HT_.out (by kernel_rfl)) (by decide) (fun K hK => ?_)
          refine goes_ Tryz.func45 (by kernel_rfl) rfl #[.int .i64 a1, .int .i64 (wrap64 ((rd t470 0) - 1))] (by rfl) rfl rfl (by (try simp only [List.map_toArray, List.map_cons, List.map_nil]); first | done | rfl | (simp only [List.length_drop, List.length_take]; rfl)) ?_
          with_reducible refine (spec_l7Power.calls k2 a1 (wrap64 ((rd t470 0) - 1)) t474 _ A30.out).mono ?_
          rintro e w' ⟨rfl, ⟨nd, rfl⟩⟩
          refine ⟨_, rfl, ?_⟩
          refine hK.out _ _ ⟨hHeld.1, hHeld.2.1, hHeld.2.2⟩ (fun hHeld => ?_)
          clear hK K
          refine norm_ (a' := ?_) ?_ ?_
          rotate_left
          ·show Act.put _ (some 54) _ = _
           simp only [Act.put, List.setIfInBounds_toArray, List.set_cons_zero, List.set_cons_succ, i64_w, i32_w]
           rfl
          refine one_ (i := 11) (N := some 59) #[true, true, true, true, true, true, true, true, true, true, true, true, false, true, true, true, true, false, false, false, false] rfl rfl (one_of HT_.out (by kernel_rfl)) (by decide) (fun K hK => ?_)
          refine goes_ Tryz.func45 (by kernel_rfl) rfl #[.int .i64 a2, .int .i64 (rd t470 3)] (by rfl) rfl rfl (by (try simp only [List.map_toArray, List.map_cons, List.map_nil]); first | done | rfl | (simp only [List.length_drop, List.length_take]; rfl)) ?_
          with_reducible refine (spec_l7Power.calls k2 a2 (rd t470 3) t476 _ A32.out).mono ?_
          rintro e w' ⟨rfl, ⟨nd, rfl⟩⟩
          refine ⟨_, rfl, ?_⟩
          refine hK.out _ _ ⟨hHeld.1, hHeld.2.1, hHeld.2.2⟩ (fun hHeld => ?_)
          clear hK K
          refine norm_ (a' := ?_) ?_ ?_
          rotate_left
          ·show Act.put _ (some 59) _ = _
           simp only [Act.put, List.setIfInBounds_toArray, List.set_cons_zero, List.set_cons_succ, i64_w, i32_w]
           rfl
          refine zP 12 (some 60) #[true,true,true,true,true,true,true,true,true,true,true,true,true,true,true,true,true,false,false,false,false] ?_
          refine one_ (i := 17) (N := some 65) #[true, true, true, true, true, true, true, true, true, true, true, true, true, true, true, true, true, true, false, false, false] rfl rfl (one_of HT_.out (by kernel_rfl)) (by decide) (fun K hK => ?_)
          refine goes_ Tryz.func45 (by kernel_rfl) rfl #[.int .i64 a3, .int .i64 (rd t470 4)] (by rfl) rfl rfl (by (try simp only [List.map_toArray, List.map_cons, List.map_nil]); first | done | rfl | (simp only [List.length_drop, List.length_take]; rfl)) ?_
          with_reducible refine (spec_l7Power.calls k2 a3 (rd t470 4) t478 _ A34.out).mono ?_
          rintro e w' ⟨rfl, ⟨nd, rfl⟩⟩
          refine ⟨_, rfl, ?_⟩
          refine hK.out _ _ ⟨hHeld.1, hHeld.2.1, hHeld.2.2⟩ (fun hHeld => ?_)
          clear hK K
          refine norm_ (a' := ?_) ?_ ?_
          rotate_left
          ·show Act.put _ (some 65) _ = _
           simp only [Act.put, List.setIfInBounds_toArray, List.set_cons_zero, List.set_cons_succ, i64_w, i32_w]
           rfl
          refine zP 18 (some 66) #[true,true,true,true,true,true,true,true,true,true,true,true,true,true,true,true,true,true,true,false,false] ?_
          refine zP 19 (some 67) #[true,true,true,true,true,true,true,true,true,true,true,true,true,true,true,true,true,true,true,true,false] ?_
          refine zP 20 (some 9) #[true,true,true,true,true,true,true,true,true,true,true,true,true,true,true,true,true,true,true,true,true] ?_
          refine done_ (done_of HT_.out (by kernel_rfl)) ?_
          try go_wp2
          go_roundg k2
          case measure => have := HJ4.out; have := HK2.out; omega
          case rel => exact ⟨(wrap64 (x9_2 + (wrap64 ((wrap64 (t474 * t476)) * t478)))), (wrap64 (x11_2 + 1)), zt, zt, H', ⟨by have := HJ4.out; have := HK2.out; omega⟩, ⟨by (with_reducible repeat (first | apply Kd.N_alloc | apply Kd.N_drewN | apply Kd.N_drew)); exact Kd.N_mono HO_10.out (fun _ hk => hk.1)⟩, ⟨zK_ BK461⟩, ⟨zB_ HB⟩⟩
         rw [if_neg c33] at H
         exact absurd H (by simp)
        rw [if_neg c31] at H
        exact absurd H (by simp)
       rw [if_neg c29] at H
       exact absurd H (by simp)
      rw [if_neg c27] at H
      exact absurd H (by simp)
     rw [if_neg c26] at H; have c26b0 := dF c26; clear c26; obtain rfl := sI H; obtain ⟨Ao40, co40, eo40⟩ := Kd.N_slice HO_10.out; subst eo40
     go_wp2
     go_ret
     exact ⟨by first | rfl | (simp [*] <;> rfl), zB_ HB⟩

end Go.Proofs.YtjebcgbmlbemcaaGreatDoor.PFnExecuteValue
