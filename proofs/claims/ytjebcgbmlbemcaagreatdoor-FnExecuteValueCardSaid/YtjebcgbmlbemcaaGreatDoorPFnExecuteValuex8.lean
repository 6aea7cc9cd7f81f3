-- Made by a program of this session (wip/tools) out of the loaded program; not trusted: Lean checks it.
import Derived.Test.YtjebcgbmlbemcaaGreatDoorPFnExecuteValuex0
import Derived.Test.YtjebcgbmlbemcaaGreatDoorPFnExecuteValuex6
import Derived.Test.YtjebcgbmlbemcaaGreatDoorPFnExecuteValuex7
-- packed
namespace Go.Proofs.YtjebcgbmlbemcaaGreatDoor.PFnExecuteValue
open Go.RowKit Go.Proofs.YtjebcgbmlbemcaaGreatDoorW.PrintWords Go.Proofs.YtjebcgbmlbemcaaGreatDoorW.PrintLast Go.Proofs.YtjebcgbmlbemcaaGreatDoorW.PrintMore
attribute [local go_sem] max2_int min2_int max_two min_two max_three min_three max_four min_four   -- for this text's walks alone
set_option linter.unusedVariables false
set_option linter.unusedSimpArgs false

/-! ### spec_MapValid: function 27 -/
mutual
def spec_MapValid.l0 : Nat → Int → List Int → List Int → Option (Bool)
  | 0, _, _, _ => none
  | k + 1, x3, x281000, x281001 => if x3 < (x281001.length : Int) then (if 0 ≤ x3 then (if (rd x281001 x3) = x3 then (some false) else (if 0 ≤ (rd x281001 x3) then (if (rd x281001 x3) < (x281001.length : Int) then (if (rd x281001 (rd x281001 x3)) = x3 then (spec_MapValid.l0 k (wrap64 (x3 + 1)) x281000 x281001) else (some false)) else (none)) else (none))) else (none)) else ((spec_l1Orbits.f k x281000 x281001).bind fun t285 => (spec_MapValid.l1 k t285 0))
def spec_MapValid.l1 : Nat → List Int → Int → Option (Bool)
  | 0, _, _ => none
  | k + 1, x4, x5 => if x5 < (x4.length : Int) then (if 0 ≤ x5 then (if (rd x4 x5) = 0 then (spec_MapValid.l1 k x4 (wrap64 (x5 + 1))) else (some false)) else (none)) else (some true)
end
def spec_MapValid.f (k : Nat) (l0_0 : List Int) (l0_1 : List Int) : Option (Bool) := (spec_l1Both.f k l0_0 l0_1).bind fun t281 => (if t281 = true then (spec_MapValid.l0 k 0 l0_0 l0_1) else (some false))
set_option maxHeartbeats 8000000 in
set_option maxRecDepth 100000 in
theorem spec_MapValid.calls (k : Nat) (A0_0 : Option Addr) (c0_0 : Nat) (l0_0 : List Int) (A0_1 : Option Addr) (c0_1 : Nat) (l0_1 : List Int) (r : Bool) (w : World) (hr0_0 : Kd.C (Kd.int .i64) w A0_0 l0_0.length l0_0) (hc0_0 : l0_0.length ≤ c0_0) (hr0_1 : Kd.C (Kd.int .i64) w A0_1 l0_1.length l0_1) (hc0_1 : l0_1.length ≤ c0_1) (h : spec_MapValid.f k l0_0 l0_1 = some r) :
    Calls Tryz.prog 27 #[.agg #[.slice A0_0 l0_0.length c0_0, .slice A0_1 l0_1.length c0_1]] w fun e w' => e = .returned (.bool r) ∧ Below w.heap.size w w' := by
 have hu25 := Tryz.underlying25; have HR0_0 := A0_ hr0_0; have HC0_0 := A0_ hc0_0; clear hr0_0 hc0_0; have HR0_1 := A0_ hr0_1; have HC0_1 := A0_ hc0_1; clear hr0_1 hc0_1
 have HB := A0_ (Below.refl w.heap.size w)
 have H : ((spec_l1Both.f k l0_0 l0_1).bind fun t281 => (if t281 = true then (spec_MapValid.l0 k 0 l0_0 l0_1) else (some false))) = some r := h
 clear h; obtain ⟨t281, A2, H⟩ := zbind H
 by_cases c3 : t281 = true
 ·subst c3
  rw [if_pos rfl] at H; have H' := A0_ H; clear H
  go_enter Tryz.func27, Tryz.ntmps27
  go_wp2_with (first | ((with_reducible refine gD (N := 1) rfl ?_); refine zX (N := 1) (cs := #[.slice A0_0 l0_0.length c0_0, .slice A0_1 l0_1.length c0_1]) (t := 25) ?_; intro gb280 hg w4 hbox hb; have BK280 := A0_ (hbox); have GW280 := zG hg HB; have GE280 := zG hg HB; replace HB := zB HB hb; clear hb hbox hg; have hcz5_0 := zc0 BK280; have hcz5_1 := zc1 BK280; have hfz5_0 := kF BK280.out 0; have hfz5_1 := kF BK280.out 1) | (go_at_call 61; (with_reducible refine (spec_l1Both.calls k _ _ l0_0 _ _ l0_1 true _ ?side1 ?side2 ?side3 ?side4 A2.out).mono ?_); (case side1 => exact zC HR0_0 HB); (case side2 => exact HC0_0.out); (case side3 => exact zC HR0_1 HB); (case side4 => exact HC0_1.out); rintro e w' ⟨rfl, ⟨nd, rfl⟩⟩; (try first | exact ⟨rfl, _, World.drewN_drewN _ _ _⟩ | exact ⟨rfl, _, Eq.trans (World.drewN_drewN _ _ _) (congrArg (World.drewN _) (Nat.add_assoc _ _ _))⟩)))
  repeat (go_quiet (first | ((with_reducible refine gD (N := 1) rfl ?_); refine zX (N := 1) (cs := #[.slice A0_0 l0_0.length c0_0, .slice A0_1 l0_1.length c0_1]) (t := 25) ?_; intro gb280 hg w4 hbox hb; have BK280 := A0_ (hbox); have GW280 := zG hg HB; have GE280 := zG hg HB; replace HB := zB HB hb; clear hb hbox hg; have hcz5_0 := zc0 BK280; have hcz5_1 := zc1 BK280; have hfz5_0 := kF BK280.out 0; have hfz5_1 := kF BK280.out 1) | (go_at_call 61; (with_reducible refine (spec_l1Both.calls k _ _ l0_0 _ _ l0_1 true _ ?side1 ?side2 ?side3 ?side4 A2.out).mono ?_); (case side1 => exact zC HR0_0 HB); (case side2 => exact HC0_0.out); (case side3 => exact zC HR0_1 HB); (case side4 => exact HC0_1.out); rintro e w' ⟨rfl, ⟨nd, rfl⟩⟩; (try first | exact ⟨rfl, _, World.drewN_drewN _ _ _⟩ | exact ⟨rfl, _, Eq.trans (World.drewN_drewN _ _ _) (congrArg (World.drewN _) (Nat.add_assoc _ _ _))⟩))); try go_wp2_with (first | ((with_reducible refine gD (N := 1) rfl ?_); refine zX (N := 1) (cs := #[.slice A0_0 l0_0.length c0_0, .slice A0_1 l0_1.length c0_1]) (t := 25) ?_; intro gb280 hg w4 hbox hb; have n0_ := zB HB hb; have n1_ := A0_ (hbox); have n2_ := zG hg HB; have n3_ := zG hg HB; clear HB; have HB := n0_; have BK280 := n1_; have GW280 := n2_; have GE280 := n3_; clear n0_ n1_ n2_ n3_ hb hbox hg; have hcz5_0 := zc0 BK280; have hcz5_1 := zc1 BK280; have hfz5_0 := kF BK280.out 0; have hfz5_1 := kF BK280.out 1) | (go_at_call 61; (with_reducible refine (spec_l1Both.calls k _ _ l0_0 _ _ l0_1 true _ ?side1 ?side2 ?side3 ?side4 A2.out).mono ?_); (case side1 => exact zC HR0_0 HB); (case side2 => exact HC0_0.out); (case side3 => exact zC HR0_1 HB); (case side4 => exact HC0_1.out); rintro e w' ⟨rfl, ⟨nd, rfl⟩⟩; (try first | exact ⟨rfl, _, World.drewN_drewN _ _ _⟩ | exact ⟨rfl, _, Eq.trans (World.drewN_drewN _ _ _) (congrArg (World.drewN _) (Nat.add_assoc _ _ _))⟩))))
  go_loopg [3] k (fun kq v3 w' => ∃ (x3_1 : Int), v3 = .int .i64 x3_1 ∧ Aside0 (spec_MapValid.l0 kq x3_1 l0_0 l0_1 = some r) ∧ Aside0 (kq ≤ k) ∧ Aside0 (w'.heap[gb280]? = some (.cells #[(.slice A0_0 l0_0.length c0_0), (.slice A0_1 l0_1.length c0_1)] 25 (0, 0))) ∧ Aside0 (Below w.heap.size w w'))
  case atStart => exact ⟨(0), zt, H', ⟨Nat.le_refl _⟩, ⟨zK_ BK280⟩, ⟨zB_ HB⟩⟩
  case round =>
   clear H'; (try clear c2); (try clear p2); (try clear c3); (try clear hcz5_0); (try clear hcz5_1); (try clear hfz5_0); (try clear hfz5_1); obtain ⟨x3_1, rfl, HA, HK1, BK280, HB⟩ := hrel
   cases gk with
   | zero => exact absurd HA.out (by simp [spec_MapValid.l0])
   | succ k1 =>
    have H := HA.out; clear HA; simp only [spec_MapValid.l0] at H
    by_cases c6 : x3_1 < (l0_1.length : Int)
    ·rw [if_pos c6] at H
     have c6b0 := dT c6; clear c6
     by_cases c7 : 0 ≤ x3_1
     ·rw [if_pos c7] at H
      have c7b0 := dT c7; clear c7
      by_cases c8 : (rd l0_1 x3_1) = x3_1
      ·rw [if_pos c8] at H
       have c8b0 : ((rd l0_1 x3_1) == x3_1) = true := beq_iff_eq.mpr c8
       have c8b1 : ((rd l0_1 x3_1) != x3_1) = false := bne_eq_false_iff_eq.mpr c8
       clear c8; obtain rfl := sI H; have hcz9_0 := zc0 BK280; have hcz9_1 := zc1 BK280; have hfz9_0 := kF BK280.out 0; have hfz9_1 := kF BK280.out 1
       have p282 : 0 ≤ (x3_1 : Int) := zd
       have q282 : x3_1 < (l0_1.length : Int) := zd
       obtain ⟨ad282, e282, hx282_0⟩ := tI HR0_1.out x3_1 p282 q282
       cases e282
       try replace hx282_0 := (HB.out.cell (wL w _ hx282_0)).trans hx282_0
       replace p282 := eq_true p282; replace q282 := eq_true q282
       go_wp2
       repeat (go_quiet (fail); try go_wp2)
       go_ret
       exact ⟨by first | rfl | (simp [*] <;> rfl), zB_ HB⟩
      rw [if_neg c8] at H
      have c8b0 : ((rd l0_1 x3_1) == x3_1) = false := beq_eq_false_iff_ne.mpr c8
      have c8b1 : ((rd l0_1 x3_1) != x3_1) = true := bne_iff_ne.mpr c8
      by_cases c10 : 0 ≤ (rd l0_1 x3_1)
      ·rw [if_pos c10] at H
       have c10b0 := dT c10; clear c10
       by_cases c11 : (rd l0_1 x3_1) < (l0_1.length : Int)
       ·rw [if_pos c11] at H
        have c11b0 := dT c11; clear c11
        by_cases c12 : (rd l0_1 (rd l0_1 x3_1)) = x3_1
        ·rw [if_pos c12] at H
         have c12b0 : ((rd l0_1 (rd l0_1 x3_1)) == x3_1) = true := beq_iff_eq.mpr c12
         have c12b1 : ((rd l0_1 (rd l0_1 x3_1)) != x3_1) = false := bne_eq_false_iff_eq.mpr c12
         clear c12; have H' := A0_ H; clear H; have hcz13_0 := zc0 BK280; have hcz13_1 := zc1 BK280; have hfz13_0 := kF BK280.out 0; have hfz13_1 := kF BK280.out 1
         have p282 : 0 ≤ (x3_1 : Int) := zd
         have q282 : x3_1 < (l0_1.length : Int) := zd
         obtain ⟨ad282, e282, hx282_0⟩ := tI HR0_1.out x3_1 p282 q282
         cases e282
         try replace hx282_0 := (HB.out.cell (wL w _ hx282_0)).trans hx282_0
         replace p282 := eq_true p282; replace q282 := eq_true q282
         have p283 : 0 ≤ (x3_1 : Int) := zd
         have q283 : x3_1 < (l0_1.length : Int) := zd
         obtain ⟨ad283, e283, hx283_0⟩ := tI HR0_1.out x3_1 p283 q283
         obtain rfl : ad282 = ad283 := (by injection e283)
         try replace hx283_0 := (HB.out.cell (wL w _ hx283_0)).trans hx283_0
         replace p283 := eq_true p283; replace q283 := eq_true q283
         have p284 : 0 ≤ ((rd l0_1 x3_1) : Int) := zd
         have q284 : (rd l0_1 x3_1) < (l0_1.length : Int) := zd
         obtain ⟨ad284, e284, hx284_0⟩ := tI HR0_1.out (rd l0_1 x3_1) p284 q284
         obtain rfl : ad282 = ad284 := (by injection e284)
         try replace hx284_0 := (HB.out.cell (wL w _ hx284_0)).trans hx284_0
         replace p284 := eq_true p284; replace q284 := eq_true q284
         go_wp2
         repeat (go_quiet (fail); try go_wp2)
         go_roundg k1
         case measure => have := HK1.out; omega
         case rel => exact ⟨(wrap64 (x3_1 + 1)), zt, H', ⟨by have := HK1.out; omega⟩, ⟨zK_ BK280⟩, ⟨zB_ HB⟩⟩
        rw [if_neg c12] at H
        have c12b0 : ((rd l0_1 (rd l0_1 x3_1)) == x3_1) = false := beq_eq_false_iff_ne.mpr c12
        have c12b1 : ((rd l0_1 (rd l0_1 x3_1)) != x3_1) = true := bne_iff_ne.mpr c12
        obtain rfl := sI H; have hcz14_0 := zc0 BK280; have hcz14_1 := zc1 BK280; have hfz14_0 := kF BK280.out 0; have hfz14_1 := kF BK280.out 1
        have p282 : 0 ≤ (x3_1 : Int) := zd
        have q282 : x3_1 < (l0_1.length : Int) := zd
        obtain ⟨ad282, e282, hx282_0⟩ := tI HR0_1.out x3_1 p282 q282
        cases e282
        try replace hx282_0 := (HB.out.cell (wL w _ hx282_0)).trans hx282_0
        replace p282 := eq_true p282; replace q282 := eq_true q282
        have p283 : 0 ≤ (x3_1 : Int) := zd
        have q283 : x3_1 < (l0_1.length : Int) := zd
        obtain ⟨ad283, e283, hx283_0⟩ := tI HR0_1.out x3_1 p283 q283
        obtain rfl : ad282 = ad283 := (by injection e283)
        try replace hx283_0 := (HB.out.cell (wL w _ hx283_0)).trans hx283_0
        replace p283 := eq_true p283; replace q283 := eq_true q283
        have p284 : 0 ≤ ((rd l0_1 x3_1) : Int) := zd
        have q284 : (rd l0_1 x3_1) < (l0_1.length : Int) := zd
        obtain ⟨ad284, e284, hx284_0⟩ := tI HR0_1.out (rd l0_1 x3_1) p284 q284
        obtain rfl : ad282 = ad284 := (by injection e284)
        try replace hx284_0 := (HB.out.cell (wL w _ hx284_0)).trans hx284_0
        replace p284 := eq_true p284; replace q284 := eq_true q284
        go_wp2
        repeat (go_quiet (fail); try go_wp2)
        go_ret
        exact ⟨by first | rfl | (simp [*] <;> rfl), zB_ HB⟩
       rw [if_neg c11] at H
       exact absurd H (by simp)
      rw [if_neg c10] at H
      exact absurd H (by simp)
     rw [if_neg c7] at H
     exact absurd H (by simp)
    rw [if_neg c6] at H; have c6b0 := dF c6; clear c6; obtain ⟨t285, A15, H⟩ := zbind H; have H' := A0_ H; clear H; have hcz16_0 := zc0 BK280; have hcz16_1 := zc1 BK280; have hfz16_0 := kF BK280.out 0; have hfz16_1 := kF BK280.out 1
    go_wp2_with (first | (go_at_call 57; (with_reducible refine (spec_l1Orbits.calls k1 _ _ l0_0 _ _ l0_1 t285 _ ?side1 ?side2 ?side3 ?side4 A15.out).mono ?_); (case side1 => exact zC HR0_0 HB); (case side2 => exact HC0_0.out); (case side3 => exact zC HR0_1 HB); (case side4 => exact HC0_1.out); rintro e w17 ⟨v286, rfl, ho0, hb⟩; have HO287 := A0_ (rL ho0 (bZ (zB_ HB))); replace BK280 := zK BK280 hb; replace HB := zB HB hb; (try clear hb); (try clear ho0)))
    repeat (go_quiet (first | (go_at_call 57; (with_reducible refine (spec_l1Orbits.calls k1 _ _ l0_0 _ _ l0_1 t285 _ ?side1 ?side2 ?side3 ?side4 A15.out).mono ?_); (case side1 => exact zC HR0_0 HB); (case side2 => exact HC0_0.out); (case side3 => exact zC HR0_1 HB); (case side4 => exact HC0_1.out); rintro e w17 ⟨v286, rfl, ho0, hb⟩; have HO287 := A0_ (rL ho0 (bZ (zB_ HB))); replace BK280 := zK BK280 hb; replace HB := zB HB hb; (try clear hb); (try clear ho0))); try go_wp2_with (first | (go_at_call 57; (with_reducible refine (spec_l1Orbits.calls k1 _ _ l0_0 _ _ l0_1 t285 _ ?side1 ?side2 ?side3 ?side4 A15.out).mono ?_); (case side1 => exact zC HR0_0 HB); (case side2 => exact HC0_0.out); (case side3 => exact zC HR0_1 HB); (case side4 => exact HC0_1.out); rintro e w17 ⟨v286, rfl, ho0, hb⟩; have n0_ := A0_ (rL ho0 (bZ (zB_ HB))); have n1_ := zK BK280 hb; have n2_ := zB HB hb; clear BK280 HB; have HO287 := n0_; have BK280 := n1_; have HB := n2_; clear n0_ n1_ n2_; (try clear hb); (try clear hb2); (try clear hk); (try clear hi); (try clear ho0))))
    go_loopg [5] k1 (fun kq v5 w' => ∃ (x5_2 : Int), v5 = .int .i64 x5_2 ∧ Aside0 (spec_MapValid.l1 kq t285 x5_2 = some r) ∧ Aside0 (kq ≤ k1) ∧ Aside0 (Kd.R (Kd.int .i64) 3 w' w.heap.size (fun _ => True) v286 t285) ∧ Aside0 (w'.heap[gb280]? = some (.cells #[(.slice A0_0 l0_0.length c0_0), (.slice A0_1 l0_1.length c0_1)] 25 (0, 0))) ∧ Aside0 (Below w.heap.size w w'))
    case atStart => exact ⟨(0), zt, H', ⟨Nat.le_refl _⟩, ⟨zR_ HO287⟩, ⟨zK_ BK280⟩, ⟨zB_ HB⟩⟩
    case round =>
     clear H'; (try clear c1); (try clear c2); (try clear p2); (try clear q2); (try clear hx2); (try clear c3); (try clear c6); (try clear c6b0); (try clear p6); (try clear c7); (try clear c7b0); (try clear c8); (try clear c8b0); (try clear c8b1); (try clear c10); (try clear c10b0); (try clear c11); (try clear c11b0); (try clear c12); (try clear c12b0); (try clear c12b1); (try clear hcz13_0); (try clear hcz13_1); (try clear hcz14_0); (try clear hcz14_1); (try clear hcz16_0); (try clear hcz16_1); (try clear hcz5_0); (try clear hcz5_1); (try clear hcz9_0); (try clear hcz9_1); (try clear hfz13_0); (try clear hfz13_1); (try clear hfz14_0); (try clear hfz14_1); (try clear hfz16_0); (try clear hfz16_1); (try clear hfz5_0); (try clear hfz5_1); (try clear hfz9_0); (try clear hfz9_1); (try clear hx282_0); (try clear hx283_0); (try clear hx284_0); (try clear p2); (try clear p282); (try clear p283); (try clear p284); (try clear q282); (try clear q283); (try clear q284); obtain ⟨x5_2, rfl, HA, HK2, HO_4, BK280, HB⟩ := hrel
     cases gk with
     | zero => exact absurd HA.out (by simp [spec_MapValid.l1])
     | succ k2 =>
      have H := HA.out; clear HA; simp only [spec_MapValid.l1] at H
      by_cases c18 : x5_2 < (t285.length : Int)
      ·rw [if_pos c18] at H
       have c18b0 := dT c18; clear c18
       by_cases c19 : 0 ≤ x5_2
       ·rw [if_pos c19] at H
        have c19b0 := dT c19; clear c19
        by_cases c20 : (rd t285 x5_2) = 0
        ·rw [if_pos c20] at H
         have c20b0 : ((rd t285 x5_2) == 0) = true := beq_iff_eq.mpr c20
         have c20b1 : ((rd t285 x5_2) != 0) = false := bne_eq_false_iff_eq.mpr c20
         clear c20; have H' := A0_ H; clear H; obtain ⟨Ao21, co21, eo21⟩ := rS HO_4.out; subst eo21
         have p288 : 0 ≤ (x5_2 : Int) := zd
         have q288 : x5_2 < (t285.length : Int) := zd
         obtain ⟨ad288, e288, hx288_0⟩ := tI (rR HO_4.out).2.2 x5_2 p288 q288
         cases e288
         replace p288 := eq_true p288; replace q288 := eq_true q288
         go_wp2
         repeat (go_quiet (fail); try go_wp2)
         go_roundg k2
         case measure => have := HK1.out; have := HK2.out; omega
         case rel => exact ⟨(wrap64 (x5_2 + 1)), zt, H', ⟨by have := HK1.out; have := HK2.out; omega⟩, ⟨zR_ HO_4⟩, ⟨zK_ BK280⟩, ⟨zB_ HB⟩⟩
        rw [if_neg c20] at H
        have c20b0 : ((rd t285 x5_2) == 0) = false := beq_eq_false_iff_ne.mpr c20
        have c20b1 : ((rd t285 x5_2) != 0) = true := bne_iff_ne.mpr c20
        obtain rfl := sI H; obtain ⟨Ao22, co22, eo22⟩ := rS HO_4.out; subst eo22
        have p288 : 0 ≤ (x5_2 : Int) := zd
        have q288 : x5_2 < (t285.length : Int) := zd
        obtain ⟨ad288, e288, hx288_0⟩ := tI (rR HO_4.out).2.2 x5_2 p288 q288
        cases e288
        replace p288 := eq_true p288; replace q288 := eq_true q288
        go_wp2
        repeat (go_quiet (fail); try go_wp2)
        go_ret
        exact ⟨by first | rfl | (simp [*] <;> rfl), zB_ HB⟩
       rw [if_neg c19] at H
       exact absurd H (by simp)
      rw [if_neg c18] at H; have c18b0 := dF c18; clear c18; obtain rfl := sI H; obtain ⟨Ao23, co23, eo23⟩ := rS HO_4.out; subst eo23
      go_wp2
      repeat (go_quiet (fail); try go_wp2)
      go_ret
      exact ⟨by first | rfl | (simp [*] <;> rfl), zB_ HB⟩
 replace c3 := Bool.eq_false_iff.mpr c3; subst c3
 rw [if_neg (show ¬ (false = true) by decide)] at H
 obtain rfl := sI H
 go_enter Tryz.func27, Tryz.ntmps27
 go_wp2_with (first | ((with_reducible refine gD (N := 1) rfl ?_); refine zX (N := 1) (cs := #[.slice A0_0 l0_0.length c0_0, .slice A0_1 l0_1.length c0_1]) (t := 25) ?_; intro gb280 hg w24 hbox hb; have BK280 := A0_ (hbox); have GW280 := zG hg HB; have GE280 := zG hg HB; replace HB := zB HB hb; clear hb hbox hg; have hcz25_0 := zc0 BK280; have hcz25_1 := zc1 BK280; have hfz25_0 := kF BK280.out 0; have hfz25_1 := kF BK280.out 1) | (go_at_call 61; (with_reducible refine (spec_l1Both.calls k _ _ l0_0 _ _ l0_1 false _ ?side1 ?side2 ?side3 ?side4 A2.out).mono ?_); (case side1 => exact zC HR0_0 HB); (case side2 => exact HC0_0.out); (case side3 => exact zC HR0_1 HB); (case side4 => exact HC0_1.out); rintro e w' ⟨rfl, ⟨nd, rfl⟩⟩; (try first | exact ⟨rfl, _, World.drewN_drewN _ _ _⟩ | exact ⟨rfl, _, Eq.trans (World.drewN_drewN _ _ _) (congrArg (World.drewN _) (Nat.add_assoc _ _ _))⟩)))
 repeat (go_quiet (first | ((with_reducible refine gD (N := 1) rfl ?_); refine zX (N := 1) (cs := #[.slice A0_0 l0_0.length c0_0, .slice A0_1 l0_1.length c0_1]) (t := 25) ?_; intro gb280 hg w24 hbox hb; have BK280 := A0_ (hbox); have GW280 := zG hg HB; have GE280 := zG hg HB; replace HB := zB HB hb; clear hb hbox hg; have hcz25_0 := zc0 BK280; have hcz25_1 := zc1 BK280; have hfz25_0 := kF BK280.out 0; have hfz25_1 := kF BK280.out 1) | (go_at_call 61; (with_reducible refine (spec_l1Both.calls k _ _ l0_0 _ _ l0_1 false _ ?side1 ?side2 ?side3 ?side4 A2.out).mono ?_); (case side1 => exact zC HR0_0 HB); (case side2 => exact HC0_0.out); (case side3 => exact zC HR0_1 HB); (case side4 => exact HC0_1.out); rintro e w' ⟨rfl, ⟨nd, rfl⟩⟩; (try first | exact ⟨rfl, _, World.drewN_drewN _ _ _⟩ | exact ⟨rfl, _, Eq.trans (World.drewN_drewN _ _ _) (congrArg (World.drewN _) (Nat.add_assoc _ _ _))⟩))); try go_wp2_with (first | ((with_reducible refine gD (N := 1) rfl ?_); refine zX (N := 1) (cs := #[.slice A0_0 l0_0.length c0_0, .slice A0_1 l0_1.length c0_1]) (t := 25) ?_; intro gb280 hg w24 hbox hb; have n0_ := zB HB hb; have n1_ := A0_ (hbox); have n2_ := zG hg HB; have n3_ := zG hg HB; clear HB; have HB := n0_; have BK280 := n1_; have GW280 := n2_; have GE280 := n3_; clear n0_ n1_ n2_ n3_ hb hbox hg; have hcz25_0 := zc0 BK280; have hcz25_1 := zc1 BK280; have hfz25_0 := kF BK280.out 0; have hfz25_1 := kF BK280.out 1) | (go_at_call 61; (with_reducible refine (spec_l1Both.calls k _ _ l0_0 _ _ l0_1 false _ ?side1 ?side2 ?side3 ?side4 A2.out).mono ?_); (case side1 => exact zC HR0_0 HB); (case side2 => exact HC0_0.out); (case side3 => exact zC HR0_1 HB); (case side4 => exact HC0_1.out); rintro e w' ⟨rfl, ⟨nd, rfl⟩⟩; (try first | exact ⟨rfl, _, World.drewN_drewN _ _ _⟩ | exact ⟨rfl, _, Eq.trans (World.drewN_drewN _ _ _) (congrArg (World.drewN _) (Nat.add_assoc _ _ _))⟩))))
 go_ret
 exact ⟨by first | rfl | (simp [*] <;> rfl), zB_ HB⟩

/-! ### spec_l91Perm: function 56 -/
def spec_l91Perm.l0 : Nat → Int → List Int → Int → List Int → Int → Option (List Int × Int)
  | 0, _, _, _, _, _ => none
  | k + 1, x1, x5, x6, x1000, x1001 => if x6 < x1 then ((spec_l6Rd_pick.f k x1000 x1001 (wrap64 (x6 + 1))).bind fun bt292 => (if bt292.1 = x6 then (if x5.length < 17592186044416 then (spec_l91Perm.l0 k x1 (x5 ++ [x6]) (wrap64 (x6 + 1)) x1000 bt292.2) else (none)) else (if 0 ≤ bt292.1 then (if bt292.1 < (x5.length : Int) then (if x5.length < 17592186044416 then ((some (x5 ++ [rd x5 bt292.1] : List Int)).bind fun y298 => (if bt292.1 < (y298.length : Int) then (spec_l91Perm.l0 k x1 (y298.set (bt292.1 : Int).toNat x6) (wrap64 (x6 + 1)) x1000 bt292.2) else (none))) else (none)) else (none)) else (none)))) else (some (x5, x1001))
def spec_l91Perm.f (k : Nat) (s0_0 : List Int) (s0_1 : Int) (a1 : Int) : Option (List Int × Int) := spec_l91Perm.l0 k a1 (([] : List Int)) 0 s0_0 s0_1
set_option maxHeartbeats 8000000 in
set_option maxRecDepth 100000 in
theorem spec_l91Perm.calls (k : Nat) (g : Nat) (s0_0 : List Int) (s0_1 : Int) (a1 : Int) (r1 : List Int) (r2 : Int) (w0 w : World) (hI : IsS76 w0 w g s0_0 s0_1) (hB : Below w0.heap.size w0 w) (h : spec_l91Perm.f k s0_0 s0_1 a1 = some (r1, r2)) :
    Calls Tryz.prog 56 #[.pointer (some ⟨g, 0, none⟩), .int .i64 a1] w fun e w' => ∃ v0_ : Value, e = .returned (v0_) ∧ Kd.R (Kd.int .i64) 3 w' w.heap.size (fun _ => True) v0_ r1 ∧ IsS76 w0 w' g s0_0 r2 ∧ Below w0.heap.size w0 w' ∧ KeepBut w w' g none := by
 have HI0 := A0_ hI
 have HK := A0_ (KeepBut.refl w g none)
 have HL := A0_ hB.size; clear hI; have HW0 := A0_ hB.size; have HB := A0_ hB; clear hB
 have H : (spec_l91Perm.l0 k a1 (([] : List Int)) 0 s0_0 s0_1) = some (r1, r2) := h
 clear h
 obtain ⟨y289, hy289⟩ : ∃ y_ : List Int, y_ = (([] : List Int)) := ⟨_, rfl⟩
 replace H : (spec_l91Perm.l0 k a1 y289 0 s0_0 s0_1) = some (r1, r2) := zH hy289 H
 have Ny289 := A0_ hy289; clear hy289; have H' := A0_ H; clear H
 go_enter Tryz.func56, Tryz.ntmps56
 go_wp2_with (first | ((with_reducible refine gD (N := 8) rfl ?_); refine Kd.R_lit (Kd.int .i64) _ 3 ?hg (N := 8) ?hd (xs := ([] : List Int)) (inner := []) (ok := fun _ => True) (okp := fun _ => True) ?hr ?hp (fun _ hk => hk) trivial (Below.refl _ _) (Nat.le_refl _) (by simp) ?_; (case hd => rfl); (case hg => rfl); (case hr => first | (go_simp; done) | (go_simp; rfl)); (case hp => exact (Reps.none _ _)); intro v290 w3 ho4 hb hg_ hnew_; clear hg_ hnew_; (first | rw [← Ny289.out] at ho4 | (simp only [Int.reduceToNat] at ho4; rw [← Ny289.out] at ho4)); have HO291 := A0_ (rL ho4 (keep_size (w := w) (g := g) (row := none) (by repeat (first | (with_reducible first | exact HK.out | apply KeepBut.set_ | apply keep_drewN | apply keep_drew | apply keep_alloc) | exact HK.out)))); replace HK := A0_ (KeepBut.trans (by repeat (first | (with_reducible first | exact HK.out | apply KeepBut.set_ | apply keep_drewN | apply keep_drew | apply keep_alloc) | exact HK.out)) (KeepBut.of_below hb g none) (.inl rfl)); replace HB := A0_ (bT (by repeat (first | (with_reducible first | exact HB.out | apply bA | apply bN | apply bD | refine bS ?_ (IsS76.ge HI0.out)) | exact HB.out)) hb); replace HI0 := A0_ (IsS76.below (by repeat (first | (with_reducible first | exact HI0.out | apply IsS76.alloc | apply IsS76.drewN | apply IsS76.drew | apply IsS76.set_1) | exact HI0.out)) hb); clear hb ho4))
 go_loopg [5, 6] k (fun kq v5 v6 w' => ∃ (x5_1 : List Int) (x6_1 : Int) (x1001_1 : Int), v6 = .int .i64 x6_1 ∧ Aside0 (spec_l91Perm.l0 kq a1 x5_1 x6_1 s0_0 x1001_1 = some (r1, r2)) ∧ Aside0 (kq ≤ k) ∧ Aside0 (Kd.R (Kd.int .i64) 3 w' w.heap.size (fun _ => True) v5 x5_1) ∧ Aside0 (IsS76 w0 w' g s0_0 x1001_1) ∧ Aside0 (KeepBut w w' g none) ∧ Aside0 (Below w0.heap.size w0 w'))
 case atStart => exact ⟨(y289), (0), (s0_1), zt, H', ⟨Nat.le_refl _⟩, ⟨zR_ HO291⟩, ⟨by repeat (first | (with_reducible first | exact HI0.out | apply IsS76.alloc | apply IsS76.drewN | apply IsS76.drew | apply IsS76.set_1) | exact HI0.out)⟩, ⟨by repeat (first | (with_reducible first | exact HK.out | apply KeepBut.set_ | apply keep_drewN | apply keep_drew | apply keep_alloc) | exact HK.out)⟩, ⟨by repeat (first | (with_reducible first | exact HB.out | apply bA | apply bN | apply bD | refine bS ?_ (IsS76.ge HI0.out)) | exact HB.out)⟩⟩
 case round =>
  clear H'; (try clear p2); obtain ⟨x5_1, x6_1, x1001_1, rfl, HA, HK1, HO_5, HI0, HK, HB⟩ := hrel
  cases gk with
  | zero => exact absurd HA.out (by simp [spec_l91Perm.l0])
  | succ k1 =>
   have H := HA.out; clear HA; simp only [spec_l91Perm.l0] at H
   by_cases c5 : x6_1 < a1
   ·rw [if_pos c5] at H
    have c5b0 := dT c5; clear c5; obtain ⟨⟨t292, t293⟩, A6, H⟩ := zbind H; dsimp only at H
    by_cases c7 : t292 = x6_1
    ·rw [if_pos c7] at H
     have c7b0 : (t292 == x6_1) = true := beq_iff_eq.mpr c7
     have c7b1 : (t292 != x6_1) = false := bne_eq_false_iff_eq.mpr c7
     clear c7
     by_cases c8 : x5_1.length < 17592186044416
     ·rw [if_pos c8] at H
      have LMc8 := A0_ c8; clear c8
      obtain ⟨y294, hy294⟩ : ∃ y_ : List Int, y_ = (x5_1 ++ [x6_1]) := ⟨_, rfl⟩
      replace H : (spec_l91Perm.l0 k1 a1 y294 (wrap64 (x6_1 + 1)) s0_0 t293) = some (r1, r2) := zH hy294 H
      have Ny294 := A0_ hy294; clear hy294; have H' := A0_ H; clear H
      go_wp2_with (first | ((with_reducible refine gC (f := 22) rfl ?_); refine zJ (some 17) Tryz.func22 #[.pointer (some ⟨g, 0, none⟩), .int .i64 (wrap64 (x6_1 + 1))] ?_; (with_reducible refine (spec_l6Rd_pick.calls k1 g s0_0 x1001_1 (wrap64 (x6_1 + 1)) t292 t293 w0 _ ?side1 ?side2 A6.out).mono ?_); (case side1 => repeat (first | (with_reducible first | exact HI0.out | apply IsS76.alloc | apply IsS76.drewN | apply IsS76.drew | apply IsS76.set_1) | exact HI0.out)); (case side2 => repeat (first | (with_reducible first | exact HB.out | apply bA | apply bN | apply bD | refine bS ?_ (IsS76.ge HI0.out)) | exact HB.out)); rintro e w9 ⟨rfl, hi, hb, hk⟩; refine ⟨_, rfl, ?_⟩; replace HO_5 := A0_ (rM (Kd.R_keep (IsS76.apart (show IsS76 w0 _ g s0_0 x1001_1 from by repeat (first | (with_reducible first | exact HI0.out | apply IsS76.alloc | apply IsS76.drewN | apply IsS76.drew | apply IsS76.set_1) | exact HI0.out)) (zR_ HO_5) (by decide)) hk (fun _ h => h.2)) (fun _ h => h.1)); replace HK := A0_ (KeepBut.trans (by repeat (first | (with_reducible first | exact HK.out | apply KeepBut.set_ | apply keep_drewN | apply keep_drew | apply keep_alloc) | exact HK.out)) hk (.inl rfl)); replace HB := A0_ (hb); replace HI0 := A0_ (hi); (try clear hb)) | ((with_reducible refine gB (b := .append) (xs := #[.tmp 21, .tmp 23]) rfl ?_); at_builtin; refine Kd.R_append (Kd.int .i64) w.heap.size rfl (.tmp 21) (.tmp 23) 23 3 (.int .i64 0) 8 rfl Tryz.underlying23 info3 rfl (by decide) (by omega) u5 x5_1 x6_1 [.int .i64 x6_1] (fun _ => True) (fun _ => False) rfl rfl ?aP (fun _ hk => hk.elim) ?aF ?aO (Below.refl _ _) ?aS ?aL ?_; (case aP => exact rfl); (case aF => exact (fun _ _ => trivial)); (case aO => exact (zR_ HO_5)); (case aS => exact (keep_size (w := w) (g := g) (row := none) (by repeat (first | (with_reducible first | exact HK.out | apply KeepBut.set_ | apply keep_drewN | apply keep_drew | apply keep_alloc) | exact HK.out)))); (case aL => have := LMc8.out; omega); intro v295 w10 ho hb hg hat; rw [← Ny294.out] at ho; replace HB := A0_ (below_weaken (by repeat (first | (with_reducible first | exact HB.out | apply bA | apply bN | apply bD | refine bS ?_ (IsS76.ge HI0.out)) | exact HB.out)) HL.out hb); replace HI0 := A0_ (IsS76.grown (by repeat (first | (with_reducible first | exact HI0.out | apply IsS76.alloc | apply IsS76.drewN | apply IsS76.drew | apply IsS76.set_1) | exact HI0.out)) hg (IsS76.own_ne HI0.out HO_5.out (by decide))); replace HK := A0_ (KeepBut.trans (by repeat (first | (with_reducible first | exact HK.out | apply KeepBut.set_ | apply keep_drewN | apply keep_drew | apply keep_alloc) | exact HK.out)) (KeepBut.of_grown hg g) (Kd.R_base2 HO_5.out)); have HO296 := A0_ (ho); clear HO_5 ho hb hg hat))
      go_roundg k1
      case measure => have := HK1.out; omega
      case rel => exact ⟨(y294), (wrap64 (x6_1 + 1)), (t293), zt, H', ⟨by have := HK1.out; omega⟩, ⟨zR_ HO296⟩, ⟨by repeat (first | (with_reducible first | exact HI0.out | apply IsS76.alloc | apply IsS76.drewN | apply IsS76.drew | apply IsS76.set_1) | exact HI0.out)⟩, ⟨by repeat (first | (with_reducible first | exact HK.out | apply KeepBut.set_ | apply keep_drewN | apply keep_drew | apply keep_alloc) | exact HK.out)⟩, ⟨by repeat (first | (with_reducible first | exact HB.out | apply bA | apply bN | apply bD | refine bS ?_ (IsS76.ge HI0.out)) | exact HB.out)⟩⟩
     rw [if_neg c8] at H
     exact absurd H (by simp)
    rw [if_neg c7] at H
    have c7b0 : (t292 == x6_1) = false := beq_eq_false_iff_ne.mpr c7
    have c7b1 : (t292 != x6_1) = true := bne_iff_ne.mpr c7
    by_cases c11 : 0 ≤ t292
    ·rw [if_pos c11] at H
     have c11b0 := dT c11; clear c11
     by_cases c12 : t292 < (x5_1.length : Int)
     ·rw [if_pos c12] at H
      have c12b0 := dT c12; clear c12
      by_cases c13 : x5_1.length < 17592186044416
      ·rw [if_pos c13] at H
       have LMc13 := A0_ c13; clear c13
       obtain ⟨y298, hy298⟩ : ∃ y_ : List Int, y_ = (x5_1 ++ [rd x5_1 t292]) := ⟨_, rfl⟩
       replace H : (if t292 < (y298.length : Int) then (spec_l91Perm.l0 k1 a1 (y298.set (t292 : Int).toNat x6_1) (wrap64 (x6_1 + 1)) s0_0 t293) else (none)) = some (r1, r2) := zH hy298 H
       have Ny298 := A0_ hy298; clear hy298
       by_cases c14 : t292 < (y298.length : Int)
       ·rw [if_pos c14] at H
        have c14b0 := dT c14; clear c14
        obtain ⟨y301, hy301⟩ : ∃ y_ : List Int, y_ = (y298.set (t292 : Int).toNat x6_1) := ⟨_, rfl⟩
        replace H : (spec_l91Perm.l0 k1 a1 y301 (wrap64 (x6_1 + 1)) s0_0 t293) = some (r1, r2) := zH hy301 H
        have Ny301 := A0_ hy301; clear hy301; have H' := A0_ H; clear H
        go_wp2_with (first | ((with_reducible refine gC (f := 22) rfl ?_); refine zJ (some 17) Tryz.func22 #[.pointer (some ⟨g, 0, none⟩), .int .i64 (wrap64 (x6_1 + 1))] ?_; (with_reducible refine (spec_l6Rd_pick.calls k1 g s0_0 x1001_1 (wrap64 (x6_1 + 1)) t292 t293 w0 _ ?side1 ?side2 A6.out).mono ?_); (case side1 => repeat (first | (with_reducible first | exact HI0.out | apply IsS76.alloc | apply IsS76.drewN | apply IsS76.drew | apply IsS76.set_1) | exact HI0.out)); (case side2 => repeat (first | (with_reducible first | exact HB.out | apply bA | apply bN | apply bD | refine bS ?_ (IsS76.ge HI0.out)) | exact HB.out)); rintro e w16 ⟨rfl, hi, hb, hk⟩; refine ⟨_, rfl, ?_⟩; replace HO_5 := A0_ (rM (Kd.R_keep (IsS76.apart (show IsS76 w0 _ g s0_0 x1001_1 from by repeat (first | (with_reducible first | exact HI0.out | apply IsS76.alloc | apply IsS76.drewN | apply IsS76.drew | apply IsS76.set_1) | exact HI0.out)) (zR_ HO_5) (by decide)) hk (fun _ h => h.2)) (fun _ h => h.1)); replace HK := A0_ (KeepBut.trans (by repeat (first | (with_reducible first | exact HK.out | apply KeepBut.set_ | apply keep_drewN | apply keep_drew | apply keep_alloc) | exact HK.out)) hk (.inl rfl)); replace HB := A0_ (hb); replace HI0 := A0_ (hi); (try clear hb); obtain ⟨Ao17, co17, eo17⟩ := rS HO_5.out; subst eo17; have p297 : 0 ≤ (t292 : Int) := zd; have q297 : t292 < (x5_1.length : Int) := zd; obtain ⟨ad297, e297, hx297_0⟩ := tI (rR HO_5.out).2.2 t292 p297 q297; cases e297; replace p297 := eq_true p297; replace q297 := eq_true q297) | ((with_reducible refine gB (b := .append) (xs := #[.tmp 25, .tmp 30]) rfl ?_); at_builtin; refine Kd.R_append (Kd.int .i64) w.heap.size rfl (.tmp 25) (.tmp 30) 23 3 (.int .i64 0) 8 rfl Tryz.underlying23 info3 rfl (by decide) (by omega) (.slice (some ad297) x5_1.length co17) x5_1 (rd x5_1 t292) [.int .i64 (rd x5_1 t292)] (fun _ => True) (fun _ => False) rfl rfl ?aP (fun _ hk => hk.elim) ?aF ?aO (Below.refl _ _) ?aS ?aL ?_; (case aP => exact rfl); (case aF => exact (fun _ _ => trivial)); (case aO => exact (zR_ HO_5)); (case aS => exact (keep_size (w := w) (g := g) (row := none) (by repeat (first | (with_reducible first | exact HK.out | apply KeepBut.set_ | apply keep_drewN | apply keep_drew | apply keep_alloc) | exact HK.out)))); (case aL => have := LMc13.out; omega); intro v299 w18 ho hb hg hat; rw [← Ny298.out] at ho; replace HB := A0_ (below_weaken (by repeat (first | (with_reducible first | exact HB.out | apply bA | apply bN | apply bD | refine bS ?_ (IsS76.ge HI0.out)) | exact HB.out)) HL.out hb); replace HI0 := A0_ (IsS76.grown (by repeat (first | (with_reducible first | exact HI0.out | apply IsS76.alloc | apply IsS76.drewN | apply IsS76.drew | apply IsS76.set_1) | exact HI0.out)) hg (IsS76.own_ne HI0.out HO_5.out (by decide))); replace HK := A0_ (KeepBut.trans (by repeat (first | (with_reducible first | exact HK.out | apply KeepBut.set_ | apply keep_drewN | apply keep_drew | apply keep_alloc) | exact HK.out)) (KeepBut.of_grown hg g) (Kd.R_base2 HO_5.out)); have HO300 := A0_ (ho); clear HO_5 ho hb hg hat; have p15 : 0 ≤ (t292 : Int) := zd; have q15 : (t292 : Int) < ((y298.length : Int) : Int) := zd; obtain ⟨go15, co15, eo15, gb15, gl15, cl15, HG15⟩ := Kd.R_form HO300.out (by omega); (first | cases eo15 | (injection eo15 with ea_ en_ ec_; (first | subst ea_ | (injection ea_ with ea_; subst ea_)); subst ec_; clear en_)); have GB15 := A0_ gb15; have GG15 := A0_ HG15; clear gb15 gl15 HG15; obtain ⟨hx15_0, hf15_0⟩ := Kd.R_celln 0 HO300.out (t292 : Int) p15 q15; replace p15 := eq_true p15; replace q15 := eq_true q15; obtain ⟨hy19_, hz19_⟩ := Kd.R_celln 0 HO300.out (t292 : Int) (zd) (zd); have HP19 := Kd.R_putg HO300.out (t292 : Int) x6_1) | ((with_reducible refine gS (t := 3) (p := 35) rfl ?_); refine store_event (t := 3) (p := 35) (v := ?vo_w20) (w1 := (w18.setCell ⟨go15, (t292 : Int).toNat, none⟩ (.int .i64 x6_1))) ?hg ?ho ?hn ?hr ?_; (case ho => rfl); (case hg => rfl); (case hn => rfl); (case hr => first | (go_simp; done) | (go_simp; rfl)); intro w20 hw; have hg : w18.grownBy w20 (some go15) := (by rw [hw]; exact HP19.2); have hp_ : Kd.R (Kd.int .i64) 3 w20 w.heap.size (fun _ => True) (.slice (some ⟨go15, 0, none⟩) y298.length co15) y301 := (by rw [hw, Ny301.out]; exact HP19.1); clear HP19; replace HI0 := A0_ (IsS76.grown (by repeat (first | (with_reducible first | exact HI0.out | apply IsS76.alloc | apply IsS76.drewN | apply IsS76.drew | apply IsS76.set_1) | exact HI0.out)) hg (IsS76.own_ne HI0.out HO300.out (by decide))); replace HB := A0_ ((by rw [hw]; exact bS (HB.out) (Nat.le_trans HL.out GB15.out) : Below w0.heap.size w0 w20)); replace HK := A0_ (KeepBut.trans (by repeat (first | (with_reducible first | exact HK.out | apply KeepBut.set_ | apply keep_drewN | apply keep_drew | apply keep_alloc) | exact HK.out)) (KeepBut.of_grown hg g) (Kd.R_base2 HO300.out)); replace HO300 := A0_ (hp_); clear hg hw hp_))
        go_roundg k1
        case measure => have := HK1.out; omega
        case rel => exact ⟨(y301), (wrap64 (x6_1 + 1)), (t293), zt, H', ⟨by have := HK1.out; omega⟩, ⟨zR_ HO300⟩, ⟨by repeat (first | (with_reducible first | exact HI0.out | apply IsS76.alloc | apply IsS76.drewN | apply IsS76.drew | apply IsS76.set_1) | exact HI0.out)⟩, ⟨by repeat (first | (with_reducible first | exact HK.out | apply KeepBut.set_ | apply keep_drewN | apply keep_drew | apply keep_alloc) | exact HK.out)⟩, ⟨by repeat (first | (with_reducible first | exact HB.out | apply bA | apply bN | apply bD | refine bS ?_ (IsS76.ge HI0.out)) | exact HB.out)⟩⟩
       rw [if_neg c14] at H
       exact absurd H (by simp)
      rw [if_neg c13] at H
      exact absurd H (by simp)
     rw [if_neg c12] at H
     exact absurd H (by simp)
    rw [if_neg c11] at H
    exact absurd H (by simp)
   rw [if_neg c5] at H; have c5b0 := dF c5; clear c5; simp only [Option.some.injEq, Prod.mk.injEq] at H; obtain ⟨rfl, rfl⟩ := H
   go_wp2
   go_ret
   exact ⟨_, by first | rfl | (simp [*] <;> rfl), zR_ HO_5, by repeat (first | (with_reducible first | exact HI0.out | apply IsS76.alloc | apply IsS76.drewN | apply IsS76.drew | apply IsS76.set_1) | exact HI0.out), by repeat (first | (with_reducible first | exact HB.out | apply bA | apply bN | apply bD | refine bS ?_ (IsS76.ge HI0.out)) | exact HB.out), by repeat (first | (with_reducible first | exact HK.out | apply KeepBut.set_ | apply keep_drewN | apply keep_drew | apply keep_alloc) | exact HK.out)⟩

end Go.Proofs.YtjebcgbmlbemcaaGreatDoor.PFnExecuteValue
