-- Made by a program of this session (wip/tools) out of the loaded program; not trusted: Lean checks it.
import Derived.Test.YtmcgkckdnelcdaaPFnExactCoverConjx0
import Derived.Test.YtmcgkckdnelcdaaPFnExactCoverConjx2
-- packed
namespace Go.Proofs.Ytmcgkckdnelcdaa.PFnExactCoverConj
open Go.RowKit Go.Proofs.YtmcgkckdnelcdaaW.PrintWords Go.Proofs.YtmcgkckdnelcdaaW.PrintLast Go.Proofs.YtmcgkckdnelcdaaW.PrintMore
attribute [local go_sem] max2_int min2_int max_two min_two max_three min_three max_four min_four   -- for this text's walks alone
set_option linter.unusedVariables false
set_option linter.unusedSimpArgs false

/-! ### spec_MapValid: function 56 -/
mutual
def spec_MapValid.l0 : Nat → Int → List Int → List Int → Option (Bool)
  | 0, _, _, _ => none
  | k + 1, x3, x173000, x173001 => if x3 < (x173001.length : Int) then (if 0 ≤ x3 then (if (rd x173001 x3) = x3 then (some false) else (if 0 ≤ (rd x173001 x3) then (if (rd x173001 x3) < (x173001.length : Int) then (if (rd x173001 (rd x173001 x3)) = x3 then (spec_MapValid.l0 k (wrap64 (x3 + 1)) x173000 x173001) else (some false)) else (none)) else (none))) else (none)) else ((spec_l1Orbits.f k x173000 x173001).bind fun t177 => (spec_MapValid.l1 k t177 0))
def spec_MapValid.l1 : Nat → List Int → Int → Option (Bool)
  | 0, _, _ => none
  | k + 1, x4, x5 => if x5 < (x4.length : Int) then (if 0 ≤ x5 then (if (rd x4 x5) = 0 then (spec_MapValid.l1 k x4 (wrap64 (x5 + 1))) else (some false)) else (none)) else (some true)
end
def spec_MapValid.f (k : Nat) (l0_0 : List Int) (l0_1 : List Int) : Option (Bool) := (spec_l1Both.f k l0_0 l0_1).bind fun t173 => (if t173 = true then (spec_MapValid.l0 k 0 l0_0 l0_1) else (some false))
set_option maxHeartbeats 8000000 in
set_option maxRecDepth 100000 in
theorem spec_MapValid.calls (k : Nat) (A0_0 : Option Addr) (c0_0 : Nat) (l0_0 : List Int) (A0_1 : Option Addr) (c0_1 : Nat) (l0_1 : List Int) (r : Bool) (w : World) (hr0_0 : Kd.C (Kd.int .i64) w A0_0 l0_0.length l0_0) (hc0_0 : l0_0.length ≤ c0_0) (hr0_1 : Kd.C (Kd.int .i64) w A0_1 l0_1.length l0_1) (hc0_1 : l0_1.length ≤ c0_1) (h : spec_MapValid.f k l0_0 l0_1 = some r) :
    Calls Try.prog 56 #[.agg #[.slice A0_0 l0_0.length c0_0, .slice A0_1 l0_1.length c0_1]] w fun e w' => e = .returned (.bool r) ∧ Below w.heap.size w w' := by
 have hu29 := Try.underlying29; have HR0_0 := A0_ hr0_0; have HC0_0 := A0_ hc0_0; clear hr0_0 hc0_0; have HR0_1 := A0_ hr0_1; have HC0_1 := A0_ hc0_1; clear hr0_1 hc0_1
 have HB := A0_ (Below.refl w.heap.size w)
 have H : ((spec_l1Both.f k l0_0 l0_1).bind fun t173 => (if t173 = true then (spec_MapValid.l0 k 0 l0_0 l0_1) else (some false))) = some r := h
 clear h; obtain ⟨t173, A2, H⟩ := zbind H
 by_cases c3 : t173 = true
 ·subst c3
  rw [if_pos rfl] at H; have H' := A0_ H; clear H
  go_enter Try.func56, Try.ntmps56
  go_wp2_with (first | ((with_reducible refine gD (N := 1) rfl ?_); refine zX (N := 1) (cs := #[.slice A0_0 l0_0.length c0_0, .slice A0_1 l0_1.length c0_1]) (t := 29) ?_; intro gb172 hg w4 hbox hb; have BK172 := A0_ (hbox); have GW172 := zG hg HB; have GE172 := zG hg HB; replace HB := zB HB hb; clear hb hbox hg; have hcz5_0 := zc0 BK172; have hcz5_1 := zc1 BK172; have hfz5_0 := kF BK172.out 0; have hfz5_1 := kF BK172.out 1) | (go_at_call 96; (with_reducible refine (spec_l1Both.calls k _ _ l0_0 _ _ l0_1 true _ ?side1 ?side2 ?side3 ?side4 A2.out).mono ?_); (case side1 => exact zC HR0_0 HB); (case side2 => exact HC0_0.out); (case side3 => exact zC HR0_1 HB); (case side4 => exact HC0_1.out); rintro e w' ⟨rfl, ⟨nd, rfl⟩⟩; (try first | exact ⟨rfl, _, World.drewN_drewN _ _ _⟩ | exact ⟨rfl, _, Eq.trans (World.drewN_drewN _ _ _) (congrArg (World.drewN _) (Nat.add_assoc _ _ _))⟩)))
  repeat (go_quiet (first | ((with_reducible refine gD (N := 1) rfl ?_); refine zX (N := 1) (cs := #[.slice A0_0 l0_0.length c0_0, .slice A0_1 l0_1.length c0_1]) (t := 29) ?_; intro gb172 hg w4 hbox hb; have BK172 := A0_ (hbox); have GW172 := zG hg HB; have GE172 := zG hg HB; replace HB := zB HB hb; clear hb hbox hg; have hcz5_0 := zc0 BK172; have hcz5_1 := zc1 BK172; have hfz5_0 := kF BK172.out 0; have hfz5_1 := kF BK172.out 1) | (go_at_call 96; (with_reducible refine (spec_l1Both.calls k _ _ l0_0 _ _ l0_1 true _ ?side1 ?side2 ?side3 ?side4 A2.out).mono ?_); (case side1 => exact zC HR0_0 HB); (case side2 => exact HC0_0.out); (case side3 => exact zC HR0_1 HB); (case side4 => exact HC0_1.out); rintro e w' ⟨rfl, ⟨nd, rfl⟩⟩; (try first | exact ⟨rfl, _, World.drewN_drewN _ _ _⟩ | exact ⟨rfl, _, Eq.trans (World.drewN_drewN _ _ _) (congrArg (World.drewN _) (Nat.add_assoc _ _ _))⟩))); try go_wp2_with (first | ((with_reducible refine gD (N := 1) rfl ?_); refine zX (N := 1) (cs := #[.slice A0_0 l0_0.length c0_0, .slice A0_1 l0_1.length c0_1]) (t := 29) ?_; intro gb172 hg w4 hbox hb; have n0_ := zB HB hb; have n1_ := A0_ (hbox); have n2_ := zG hg HB; have n3_ := zG hg HB; clear HB; have HB := n0_; have BK172 := n1_; have GW172 := n2_; have GE172 := n3_; clear n0_ n1_ n2_ n3_ hb hbox hg; have hcz5_0 := zc0 BK172; have hcz5_1 := zc1 BK172; have hfz5_0 := kF BK172.out 0; have hfz5_1 := kF BK172.out 1) | (go_at_call 96; (with_reducible refine (spec_l1Both.calls k _ _ l0_0 _ _ l0_1 true _ ?side1 ?side2 ?side3 ?side4 A2.out).mono ?_); (case side1 => exact zC HR0_0 HB); (case side2 => exact HC0_0.out); (case side3 => exact zC HR0_1 HB); (case side4 => exact HC0_1.out); rintro e w' ⟨rfl, ⟨nd, rfl⟩⟩; (try first | exact ⟨rfl, _, World.drewN_drewN _ _ _⟩ | exact ⟨rfl, _, Eq.trans (World.drewN_drewN _ _ _) (congrArg (World.drewN _) (Nat.add_assoc _ _ _))⟩))))
  go_loopg [3] k (fun kq v3 w' => ∃ (x3_1 : Int), v3 = .int .i64 x3_1 ∧ Aside0 (spec_MapValid.l0 kq x3_1 l0_0 l0_1 = some r) ∧ Aside0 (kq ≤ k) ∧ Aside0 (w'.heap[gb172]? = some (.cells #[(.slice A0_0 l0_0.length c0_0), (.slice A0_1 l0_1.length c0_1)] 29 (0, 0))) ∧ Aside0 (Below w.heap.size w w'))
  case atStart => exact ⟨(0), zt, H', ⟨Nat.le_refl _⟩, ⟨zK_ BK172⟩, ⟨zB_ HB⟩⟩
  case round =>
   clear H'; (try clear p2); (try clear c3); (try clear c5); (try clear hcz5_0); (try clear hcz5_1); (try clear hfz5_0); (try clear hfz5_1); obtain ⟨x3_1, rfl, HA, HK1, BK172, HB⟩ := hrel
   cases gk with
   | zero => exact absurd HA.out (by simp [spec_MapValid.l0])
   | succ k1 =>
    have H := HA.out; clear HA; simp only [spec_MapValid.l0] at H
    by_cases c6 : x3_1 < (l0_1.length : Int)
    ·rw [if_pos c6] at H
     have c6b0 := dT c6; clear c6
     by_cases c7 : 0 ≤ x3_1
     ·rw [if_pos c7] at H
      have c7b0 := dT c7; clear c7
      by_cases c8 : (rd l0_1 x3_1) = x3_1
      ·rw [if_pos c8] at H
       have c8b0 : ((rd l0_1 x3_1) == x3_1) = true := beq_iff_eq.mpr c8
       have c8b1 : ((rd l0_1 x3_1) != x3_1) = false := bne_eq_false_iff_eq.mpr c8
       clear c8; obtain rfl := sI H; have hcz9_0 := zc0 BK172; have hcz9_1 := zc1 BK172; have hfz9_0 := kF BK172.out 0; have hfz9_1 := kF BK172.out 1
       have p174 : 0 ≤ (x3_1 : Int) := zd
       have q174 : x3_1 < (l0_1.length : Int) := zd
       obtain ⟨ad174, e174, hx174_0⟩ := tI HR0_1.out x3_1 p174 q174
       cases e174
       try replace hx174_0 := (HB.out.cell (wL w _ hx174_0)).trans hx174_0
       replace p174 := eq_true p174; replace q174 := eq_true q174
       go_wp2
       repeat (go_quiet (fail); try go_wp2)
       go_ret
       exact ⟨by first | rfl | (simp [*] <;> rfl), zB_ HB⟩
      rw [if_neg c8] at H
      have c8b0 : ((rd l0_1 x3_1) == x3_1) = false := beq_eq_false_iff_ne.mpr c8
      have c8b1 : ((rd l0_1 x3_1) != x3_1) = true := bne_iff_ne.mpr c8
      by_cases c10 : 0 ≤ (rd l0_1 x3_1)
      ·rw [if_pos c10] at H
       have c10b0 := dT c10; clear c10
       by_cases c11 : (rd l0_1 x3_1) < (l0_1.length : Int)
       ·rw [if_pos c11] at H
        have c11b0 := dT c11; clear c11
        by_cases c12 : (rd l0_1 (rd l0_1 x3_1)) = x3_1
        ·rw [if_pos c12] at H
         have c12b0 : ((rd l0_1 (rd l0_1 x3_1)) == x3_1) = true := beq_iff_eq.mpr c12
         have c12b1 : ((rd l0_1 (rd l0_1 x3_1)) != x3_1) = false := bne_eq_false_iff_eq.mpr c12
         clear c12; have H' := A0_ H; clear H; have hcz13_0 := zc0 BK172; have hcz13_1 := zc1 BK172; have hfz13_0 := kF BK172.out 0; have hfz13_1 := kF BK172.out 1
         have p174 : 0 ≤ (x3_1 : Int) := zd
         have q174 : x3_1 < (l0_1.length : Int) := zd
         obtain ⟨ad174, e174, hx174_0⟩ := tI HR0_1.out x3_1 p174 q174
         cases e174
         try replace hx174_0 := (HB.out.cell (wL w _ hx174_0)).trans hx174_0
         replace p174 := eq_true p174; replace q174 := eq_true q174
         have p175 : 0 ≤ (x3_1 : Int) := zd
         have q175 : x3_1 < (l0_1.length : Int) := zd
         obtain ⟨ad175, e175, hx175_0⟩ := tI HR0_1.out x3_1 p175 q175
         obtain rfl : ad174 = ad175 := (by injection e175)
         try replace hx175_0 := (HB.out.cell (wL w _ hx175_0)).trans hx175_0
         replace p175 := eq_true p175; replace q175 := eq_true q175
         have p176 : 0 ≤ ((rd l0_1 x3_1) : Int) := zd
         have q176 : (rd l0_1 x3_1) < (l0_1.length : Int) := zd
         obtain ⟨ad176, e176, hx176_0⟩ := tI HR0_1.out (rd l0_1 x3_1) p176 q176
         obtain rfl : ad174 = ad176 := (by injection e176)
         try replace hx176_0 := (HB.out.cell (wL w _ hx176_0)).trans hx176_0
         replace p176 := eq_true p176; replace q176 := eq_true q176
         go_wp2
         repeat (go_quiet (fail); try go_wp2)
         go_roundg k1
         case measure => have := HK1.out; omega
         case rel => exact ⟨(wrap64 (x3_1 + 1)), zt, H', ⟨by have := HK1.out; omega⟩, ⟨zK_ BK172⟩, ⟨zB_ HB⟩⟩
        rw [if_neg c12] at H
        have c12b0 : ((rd l0_1 (rd l0_1 x3_1)) == x3_1) = false := beq_eq_false_iff_ne.mpr c12
        have c12b1 : ((rd l0_1 (rd l0_1 x3_1)) != x3_1) = true := bne_iff_ne.mpr c12
        obtain rfl := sI H; have hcz14_0 := zc0 BK172; have hcz14_1 := zc1 BK172; have hfz14_0 := kF BK172.out 0; have hfz14_1 := kF BK172.out 1
        have p174 : 0 ≤ (x3_1 : Int) := zd
        have q174 : x3_1 < (l0_1.length : Int) := zd
        obtain ⟨ad174, e174, hx174_0⟩ := tI HR0_1.out x3_1 p174 q174
        cases e174
        try replace hx174_0 := (HB.out.cell (wL w _ hx174_0)).trans hx174_0
        replace p174 := eq_true p174; replace q174 := eq_true q174
        have p175 : 0 ≤ (x3_1 : Int) := zd
        have q175 : x3_1 < (l0_1.length : Int) := zd
        obtain ⟨ad175, e175, hx175_0⟩ := tI HR0_1.out x3_1 p175 q175
        obtain rfl : ad174 = ad175 := (by injection e175)
        try replace hx175_0 := (HB.out.cell (wL w _ hx175_0)).trans hx175_0
        replace p175 := eq_true p175; replace q175 := eq_true q175
        have p176 : 0 ≤ ((rd l0_1 x3_1) : Int) := zd
        have q176 : (rd l0_1 x3_1) < (l0_1.length : Int) := zd
        obtain ⟨ad176, e176, hx176_0⟩ := tI HR0_1.out (rd l0_1 x3_1) p176 q176
        obtain rfl : ad174 = ad176 := (by injection e176)
        try replace hx176_0 := (HB.out.cell (wL w _ hx176_0)).trans hx176_0
        replace p176 := eq_true p176; replace q176 := eq_true q176
        go_wp2
        repeat (go_quiet (fail); try go_wp2)
        go_ret
        exact ⟨by first | rfl | (simp [*] <;> rfl), zB_ HB⟩
       rw [if_neg c11] at H
       exact absurd H (by simp)
      rw [if_neg c10] at H
      exact absurd H (by simp)
     rw [if_neg c7] at H
     exact absurd H (by simp)
    rw [if_neg c6] at H; have c6b0 := dF c6; clear c6; obtain ⟨t177, A15, H⟩ := zbind H; have H' := A0_ H; clear H; have hcz16_0 := zc0 BK172; have hcz16_1 := zc1 BK172; have hfz16_0 := kF BK172.out 0; have hfz16_1 := kF BK172.out 1
    go_wp2_with (first | (go_at_call 97; (with_reducible refine (spec_l1Orbits.calls k1 _ _ l0_0 _ _ l0_1 t177 _ ?side1 ?side2 ?side3 ?side4 A15.out).mono ?_); (case side1 => exact zC HR0_0 HB); (case side2 => exact HC0_0.out); (case side3 => exact zC HR0_1 HB); (case side4 => exact HC0_1.out); rintro e w17 ⟨v178, rfl, ho0, hb⟩; have HO179 := A0_ (rL ho0 (bZ (zB_ HB))); replace BK172 := zK BK172 hb; replace HB := zB HB hb; (try clear hb); (try clear ho0)))
    repeat (go_quiet (first | (go_at_call 97; (with_reducible refine (spec_l1Orbits.calls k1 _ _ l0_0 _ _ l0_1 t177 _ ?side1 ?side2 ?side3 ?side4 A15.out).mono ?_); (case side1 => exact zC HR0_0 HB); (case side2 => exact HC0_0.out); (case side3 => exact zC HR0_1 HB); (case side4 => exact HC0_1.out); rintro e w17 ⟨v178, rfl, ho0, hb⟩; have HO179 := A0_ (rL ho0 (bZ (zB_ HB))); replace BK172 := zK BK172 hb; replace HB := zB HB hb; (try clear hb); (try clear ho0))); try go_wp2_with (first | (go_at_call 97; (with_reducible refine (spec_l1Orbits.calls k1 _ _ l0_0 _ _ l0_1 t177 _ ?side1 ?side2 ?side3 ?side4 A15.out).mono ?_); (case side1 => exact zC HR0_0 HB); (case side2 => exact HC0_0.out); (case side3 => exact zC HR0_1 HB); (case side4 => exact HC0_1.out); rintro e w17 ⟨v178, rfl, ho0, hb⟩; have n0_ := A0_ (rL ho0 (bZ (zB_ HB))); have n1_ := zK BK172 hb; have n2_ := zB HB hb; clear BK172 HB; have HO179 := n0_; have BK172 := n1_; have HB := n2_; clear n0_ n1_ n2_; (try clear hb); (try clear hb2); (try clear hk); (try clear hi); (try clear ho0))))
    go_loopg [5] k1 (fun kq v5 w' => ∃ (x5_2 : Int), v5 = .int .i64 x5_2 ∧ Aside0 (spec_MapValid.l1 kq t177 x5_2 = some r) ∧ Aside0 (kq ≤ k1) ∧ Aside0 (Kd.R (Kd.int .i64) 3 w' w.heap.size (fun _ => True) v178 t177) ∧ Aside0 (w'.heap[gb172]? = some (.cells #[(.slice A0_0 l0_0.length c0_0), (.slice A0_1 l0_1.length c0_1)] 29 (0, 0))) ∧ Aside0 (Below w.heap.size w w'))
    case atStart => exact ⟨(0), zt, H', ⟨Nat.le_refl _⟩, ⟨zR_ HO179⟩, ⟨zK_ BK172⟩, ⟨zB_ HB⟩⟩
    case round =>
     clear H'; (try clear c1); (try clear p1); (try clear q1); (try clear hx1); (try clear p2); (try clear c3); (try clear c5); (try clear c6); (try clear c6b0); (try clear p6); (try clear c7); (try clear c7b0); (try clear c8); (try clear c8b0); (try clear c8b1); (try clear c10); (try clear c10b0); (try clear c11); (try clear c11b0); (try clear c12); (try clear c12b0); (try clear c12b1); (try clear p17); (try clear q17); (try clear hx17); (try clear hcz13_0); (try clear hcz13_1); (try clear hcz14_0); (try clear hcz14_1); (try clear hcz16_0); (try clear hcz16_1); (try clear hcz5_0); (try clear hcz5_1); (try clear hcz9_0); (try clear hcz9_1); (try clear hfz13_0); (try clear hfz13_1); (try clear hfz14_0); (try clear hfz14_1); (try clear hfz16_0); (try clear hfz16_1); (try clear hfz5_0); (try clear hfz5_1); (try clear hfz9_0); (try clear hfz9_1); (try clear hx174_0); (try clear hx175_0); (try clear hx176_0); (try clear p174); (try clear p175); (try clear p176); (try clear p2); (try clear q174); (try clear q175); (try clear q176); obtain ⟨x5_2, rfl, HA, HK2, HO_4, BK172, HB⟩ := hrel
     cases gk with
     | zero => exact absurd HA.out (by simp [spec_MapValid.l1])
     | succ k2 =>
      have H := HA.out; clear HA; simp only [spec_MapValid.l1] at H
      by_cases c18 : x5_2 < (t177.length : Int)
      ·rw [if_pos c18] at H
       have c18b0 := dT c18; clear c18
       by_cases c19 : 0 ≤ x5_2
       ·rw [if_pos c19] at H
        have c19b0 := dT c19; clear c19
        by_cases c20 : (rd t177 x5_2) = 0
        ·rw [if_pos c20] at H
         have c20b0 : ((rd t177 x5_2) == 0) = true := beq_iff_eq.mpr c20
         have c20b1 : ((rd t177 x5_2) != 0) = false := bne_eq_false_iff_eq.mpr c20
         clear c20; have H' := A0_ H; clear H; obtain ⟨Ao21, co21, eo21⟩ := rS HO_4.out; subst eo21
         have p180 : 0 ≤ (x5_2 : Int) := zd
         have q180 : x5_2 < (t177.length : Int) := zd
         obtain ⟨ad180, e180, hx180_0⟩ := tI (rR HO_4.out).2.2 x5_2 p180 q180
         cases e180
         replace p180 := eq_true p180; replace q180 := eq_true q180
         go_wp2
         repeat (go_quiet (fail); try go_wp2)
         go_roundg k2
         case measure => have := HK1.out; have := HK2.out; omega
         case rel => exact ⟨(wrap64 (x5_2 + 1)), zt, H', ⟨by have := HK1.out; have := HK2.out; omega⟩, ⟨zR_ HO_4⟩, ⟨zK_ BK172⟩, ⟨zB_ HB⟩⟩
        rw [if_neg c20] at H
        have c20b0 : ((rd t177 x5_2) == 0) = false := beq_eq_false_iff_ne.mpr c20
        have c20b1 : ((rd t177 x5_2) != 0) = true := bne_iff_ne.mpr c20
        obtain rfl := sI H; obtain ⟨Ao22, co22, eo22⟩ := rS HO_4.out; subst eo22
        have p180 : 0 ≤ (x5_2 : Int) := zd
        have q180 : x5_2 < (t177.length : Int) := zd
        obtain ⟨ad180, e180, hx180_0⟩ := tI (rR HO_4.out).2.2 x5_2 p180 q180
        cases e180
        replace p180 := eq_true p180; replace q180 := eq_true q180
        go_wp2
        repeat (go_quiet (fail); try go_wp2)
        go_ret
        exact ⟨by first | rfl | (simp [*] <;> rfl), zB_ HB⟩
       rw [if_neg c19] at H
       exact absurd H (by simp)
      rw [if_neg c18] at H; have c18b0 := dF c18; clear c18; obtain rfl := sI H; obtain ⟨Ao23, co23, eo23⟩ := rS HO_4.out; subst eo23
      go_wp2
      repeat (go_quiet (fail); try go_wp2)
      go_ret
      exact ⟨by first | rfl | (simp [*] <;> rfl), zB_ HB⟩
 replace c3 := Bool.eq_false_iff.mpr c3; subst c3
 rw [if_neg (show ¬ (false = true) by decide)] at H
 obtain rfl := sI H
 go_enter Try.func56, Try.ntmps56
 go_wp2_with (first | ((with_reducible refine gD (N := 1) rfl ?_); refine zX (N := 1) (cs := #[.slice A0_0 l0_0.length c0_0, .slice A0_1 l0_1.length c0_1]) (t := 29) ?_; intro gb172 hg w24 hbox hb; have BK172 := A0_ (hbox); have GW172 := zG hg HB; have GE172 := zG hg HB; replace HB := zB HB hb; clear hb hbox hg; have hcz25_0 := zc0 BK172; have hcz25_1 := zc1 BK172; have hfz25_0 := kF BK172.out 0; have hfz25_1 := kF BK172.out 1) | (go_at_call 96; (with_reducible refine (spec_l1Both.calls k _ _ l0_0 _ _ l0_1 false _ ?side1 ?side2 ?side3 ?side4 A2.out).mono ?_); (case side1 => exact zC HR0_0 HB); (case side2 => exact HC0_0.out); (case side3 => exact zC HR0_1 HB); (case side4 => exact HC0_1.out); rintro e w' ⟨rfl, ⟨nd, rfl⟩⟩; (try first | exact ⟨rfl, _, World.drewN_drewN _ _ _⟩ | exact ⟨rfl, _, Eq.trans (World.drewN_drewN _ _ _) (congrArg (World.drewN _) (Nat.add_assoc _ _ _))⟩)))
 repeat (go_quiet (first | ((with_reducible refine gD (N := 1) rfl ?_); refine zX (N := 1) (cs := #[.slice A0_0 l0_0.length c0_0, .slice A0_1 l0_1.length c0_1]) (t := 29) ?_; intro gb172 hg w24 hbox hb; have BK172 := A0_ (hbox); have GW172 := zG hg HB; have GE172 := zG hg HB; replace HB := zB HB hb; clear hb hbox hg; have hcz25_0 := zc0 BK172; have hcz25_1 := zc1 BK172; have hfz25_0 := kF BK172.out 0; have hfz25_1 := kF BK172.out 1) | (go_at_call 96; (with_reducible refine (spec_l1Both.calls k _ _ l0_0 _ _ l0_1 false _ ?side1 ?side2 ?side3 ?side4 A2.out).mono ?_); (case side1 => exact zC HR0_0 HB); (case side2 => exact HC0_0.out); (case side3 => exact zC HR0_1 HB); (case side4 => exact HC0_1.out); rintro e w' ⟨rfl, ⟨nd, rfl⟩⟩; (try first | exact ⟨rfl, _, World.drewN_drewN _ _ _⟩ | exact ⟨rfl, _, Eq.trans (World.drewN_drewN _ _ _) (congrArg (World.drewN _) (Nat.add_assoc _ _ _))⟩))); try go_wp2_with (first | ((with_reducible refine gD (N := 1) rfl ?_); refine zX (N := 1) (cs := #[.slice A0_0 l0_0.length c0_0, .slice A0_1 l0_1.length c0_1]) (t := 29) ?_; intro gb172 hg w24 hbox hb; have n0_ := zB HB hb; have n1_ := A0_ (hbox); have n2_ := zG hg HB; have n3_ := zG hg HB; clear HB; have HB := n0_; have BK172 := n1_; have GW172 := n2_; have GE172 := n3_; clear n0_ n1_ n2_ n3_ hb hbox hg; have hcz25_0 := zc0 BK172; have hcz25_1 := zc1 BK172; have hfz25_0 := kF BK172.out 0; have hfz25_1 := kF BK172.out 1) | (go_at_call 96; (with_reducible refine (spec_l1Both.calls k _ _ l0_0 _ _ l0_1 false _ ?side1 ?side2 ?side3 ?side4 A2.out).mono ?_); (case side1 => exact zC HR0_0 HB); (case side2 => exact HC0_0.out); (case side3 => exact zC HR0_1 HB); (case side4 => exact HC0_1.out); rintro e w' ⟨rfl, ⟨nd, rfl⟩⟩; (try first | exact ⟨rfl, _, World.drewN_drewN _ _ _⟩ | exact ⟨rfl, _, Eq.trans (World.drewN_drewN _ _ _) (congrArg (World.drewN _) (Nat.add_assoc _ _ _))⟩))))
 go_ret
 exact ⟨by first | rfl | (simp [*] <;> rfl), zB_ HB⟩

/-! ### spec_VoltageValid: function 17 -/
mutual
def spec_VoltageValid.j0 : Nat → Int → List (List Int) → Bool → Option (Bool)
  | 0, _, _, _ => none
  | k + 1, x1, x2, x32 => if x32 = true then (some false) else (spec_VoltageValid.l0 k x1 x2 0)
def spec_VoltageValid.l0 : Nat → Int → List (List Int) → Int → Option (Bool)
  | 0, _, _, _ => none
  | k + 1, x1, x2, x7 => if x7 < (x2.length : Int) then (if 0 ≤ x7 then ((spec_PermValid.f k (rd_L1 x2 x7)).bind fun t185 => (if t185 = true then (if ((rd_L1 x2 x7).length : Int) = x1 then (spec_VoltageValid.l0 k x1 x2 (wrap64 (x7 + 1))) else (some false)) else (some false))) else (none)) else (some true)
end
def spec_VoltageValid.f (k : Nat) (l0_0 : List Int) (l0_1 : List Int) (a1 : Int) (l2 : List (List Int)) : Option (Bool) := (spec_MapValid.f k l0_0 l0_1).bind fun t182 => (if t182 = true then ((spec_l6In.f a1 1 6).bind fun t183 => (if t183 = true then (if (wrap64 (a1 * (l0_0.length : Int))) > 12 then (spec_VoltageValid.j0 k a1 l2 true) else (spec_VoltageValid.j0 k a1 l2 ((l2.length : Int) != (wrap64 ((l0_1.length : Int) / 2))))) else (spec_VoltageValid.j0 k a1 l2 true))) else (spec_VoltageValid.j0 k a1 l2 true))
set_option maxHeartbeats 8000000 in
set_option maxRecDepth 100000 in
theorem spec_VoltageValid.calls (k : Nat) (A0_0 : Option Addr) (c0_0 : Nat) (l0_0 : List Int) (A0_1 : Option Addr) (c0_1 : Nat) (l0_1 : List Int) (a1 : Int) (A2 : Option Addr) (c2 : Nat) (l2 : List (List Int)) (r : Bool) (w : World) (hr0_0 : Kd.C (Kd.int .i64) w A0_0 l0_0.length l0_0) (hc0_0 : l0_0.length ≤ c0_0) (hr0_1 : Kd.C (Kd.int .i64) w A0_1 l0_1.length l0_1) (hc0_1 : l0_1.length ≤ c0_1) (hr2 : Kd.C (Kd.slice 3 (Kd.int .i64)) w A2 l2.length l2) (hc2 : l2.length ≤ c2) (h : spec_VoltageValid.f k l0_0 l0_1 a1 l2 = some r) :
    Calls Try.prog 17 #[.agg #[.slice A0_0 l0_0.length c0_0, .slice A0_1 l0_1.length c0_1], .int .i64 a1, .slice A2 l2.length c2] w fun e w' => e = .returned (.bool r) ∧ Below w.heap.size w w' := by
 have hu29 := Try.underlying29; have HR0_0 := A0_ hr0_0; have HC0_0 := A0_ hc0_0; clear hr0_0 hc0_0; have HR0_1 := A0_ hr0_1; have HC0_1 := A0_ hc0_1; clear hr0_1 hc0_1; have HR2 := A0_ hr2; have HC2 := A0_ hc2; clear hr2 hc2
 have HB := A0_ (Below.refl w.heap.size w)
 have H : ((spec_MapValid.f k l0_0 l0_1).bind fun t182 => (if t182 = true then ((spec_l6In.f a1 1 6).bind fun t183 => (if t183 = true then (if (wrap64 (a1 * (l0_0.length : Int))) > 12 then (spec_VoltageValid.j0 k a1 l2 true) else (spec_VoltageValid.j0 k a1 l2 ((l2.length : Int) != (wrap64 ((l0_1.length : Int) / 2))))) else (spec_VoltageValid.j0 k a1 l2 true))) else (spec_VoltageValid.j0 k a1 l2 true))) = some r := h
 clear h; have HC4 := A0_ H; clear H
 go_enter Try.func17, Try.ntmps17
 go_upto_region 1 with (first | ((with_reducible refine gD (N := 3) rfl ?_); refine zX (N := 3) (cs := #[.slice A0_0 l0_0.length c0_0, .slice A0_1 l0_1.length c0_1]) (t := 29) ?_; intro gb181 hg w5 hbox hb; have BK181 := A0_ (hbox); have GW181 := zG hg HB; have GE181 := zG hg HB; replace HB := zB HB hb; clear hb hbox hg))
 (try simp only [Act.put, List.setIfInBounds_toArray, List.set_cons_zero, List.set_cons_succ])
 go_cut [32] (fun v32 wc => ∃ (kq : Nat) (x32_3 : Bool), v32 = .bool x32_3 ∧ Aside0 (spec_VoltageValid.j0 kq a1 l2 x32_3 = some r) ∧ Aside0 (kq ≤ k) ∧ Aside0 (wc.heap[gb181]? = some (.cells #[(.slice A0_0 l0_0.length c0_0), (.slice A0_1 l0_1.length c0_1)] 29 (0, 0))) ∧ Aside0 (Below w.heap.size w wc))
 case first =>
  have H := HC4.out; clear HC4; obtain ⟨t182, A6, H⟩ := zbind H
  by_cases c7 : t182 = true
  ·subst c7
   rw [if_pos rfl] at H; obtain ⟨t183, A8, H⟩ := zbind H
   by_cases c9 : t183 = true
   ·subst c9
    rw [if_pos rfl] at H
    by_cases c10 : (wrap64 (a1 * (l0_0.length : Int))) > 12
    ·rw [if_pos c10] at H
     have c10b0 : decide (12 < (wrap64 (a1 * (l0_0.length : Int)))) = true := dT c10
     clear c10
     (first | rw [c10b0] | (simp only [i64_w, i32_w]; rw [c10b0]) | skip)
     have H' := A0_ H; clear H; have hcz11_0 := zc0 BK181; have hcz11_1 := zc1 BK181; have hfz11_0 := kF BK181.out 0; have hfz11_1 := kF BK181.out 1
     go_wp2_with (first | ((with_reducible refine gC (f := 56) rfl ?_); refine zJ (some 9) Try.func56 #[.agg #[.slice A0_0 l0_0.length c0_0, .slice A0_1 l0_1.length c0_1]] ?_; (with_reducible refine (spec_MapValid.calls k _ _ l0_0 _ _ l0_1 true _ ?side1 ?side2 ?side3 ?side4 A6.out).mono ?_); (case side1 => exact zC HR0_0 HB); (case side2 => exact HC0_0.out); (case side3 => exact zC HR0_1 HB); (case side4 => exact HC0_1.out); rintro e w12 ⟨rfl, hb⟩; refine ⟨_, rfl, ?_⟩; replace BK181 := zK BK181 hb; replace HB := zB HB hb; (try clear hb)) | (go_at_call 57; (with_reducible refine (spec_l6In.calls a1 1 6 true _ A8.out).mono ?_); rintro e w' ⟨rfl, ⟨nd, rfl⟩⟩; have hcz13_0 := zc0 BK181; have hcz13_1 := zc1 BK181; have hfz13_0 := kF BK181.out 0; have hfz13_1 := kF BK181.out 1))
     go_meet
     case rel => exact ⟨_, (true), zt, H', zo, ⟨zK_ BK181⟩, ⟨zB_ HB⟩⟩
    rw [if_neg c10] at H
    have c10b0 : decide (12 < (wrap64 (a1 * (l0_0.length : Int)))) = false := dF c10
    clear c10
    (first | rw [c10b0] | (simp only [i64_w, i32_w]; rw [c10b0]) | skip)
    have H' := A0_ H; clear H; have hcz14_0 := zc0 BK181; have hcz14_1 := zc1 BK181; have hfz14_0 := kF BK181.out 0; have hfz14_1 := kF BK181.out 1
    go_wp2_with (first | ((with_reducible refine gC (f := 56) rfl ?_); refine zJ (some 9) Try.func56 #[.agg #[.slice A0_0 l0_0.length c0_0, .slice A0_1 l0_1.length c0_1]] ?_; (with_reducible refine (spec_MapValid.calls k _ _ l0_0 _ _ l0_1 true _ ?side1 ?side2 ?side3 ?side4 A6.out).mono ?_); (case side1 => exact zC HR0_0 HB); (case side2 => exact HC0_0.out); (case side3 => exact zC HR0_1 HB); (case side4 => exact HC0_1.out); rintro e w15 ⟨rfl, hb⟩; refine ⟨_, rfl, ?_⟩; replace BK181 := zK BK181 hb; replace HB := zB HB hb; (try clear hb)) | (go_at_call 57; (with_reducible refine (spec_l6In.calls a1 1 6 true _ A8.out).mono ?_); rintro e w' ⟨rfl, ⟨nd, rfl⟩⟩; have hcz16_0 := zc0 BK181; have hcz16_1 := zc1 BK181; have hfz16_0 := kF BK181.out 0; have hfz16_1 := kF BK181.out 1))
    go_meet
    case rel => exact ⟨_, (((l2.length : Int) != (wrap64 ((l0_1.length : Int) / 2)))), zt, H', zo, ⟨zK_ BK181⟩, ⟨zB_ HB⟩⟩
   replace c9 := Bool.eq_false_iff.mpr c9; subst c9
   rw [if_neg (show ¬ (false = true) by decide)] at H
   have H' := A0_ H; clear H; have hcz17_0 := zc0 BK181; have hcz17_1 := zc1 BK181; have hfz17_0 := kF BK181.out 0; have hfz17_1 := kF BK181.out 1
   go_wp2_with (first | ((with_reducible refine gC (f := 56) rfl ?_); refine zJ (some 9) Try.func56 #[.agg #[.slice A0_0 l0_0.length c0_0, .slice A0_1 l0_1.length c0_1]] ?_; (with_reducible refine (spec_MapValid.calls k _ _ l0_0 _ _ l0_1 true _ ?side1 ?side2 ?side3 ?side4 A6.out).mono ?_); (case side1 => exact zC HR0_0 HB); (case side2 => exact HC0_0.out); (case side3 => exact zC HR0_1 HB); (case side4 => exact HC0_1.out); rintro e w18 ⟨rfl, hb⟩; refine ⟨_, rfl, ?_⟩; replace BK181 := zK BK181 hb; replace HB := zB HB hb; (try clear hb)) | (go_at_call 57; (with_reducible refine (spec_l6In.calls a1 1 6 false _ A8.out).mono ?_); rintro e w' ⟨rfl, ⟨nd, rfl⟩⟩))
   go_meet
   case rel => exact ⟨_, (true), zt, H', zo, ⟨zK_ BK181⟩, ⟨zB_ HB⟩⟩
  replace c7 := Bool.eq_false_iff.mpr c7; subst c7
  rw [if_neg (show ¬ (false = true) by decide)] at H
  have H' := A0_ H; clear H; have hcz19_0 := zc0 BK181; have hcz19_1 := zc1 BK181; have hfz19_0 := kF BK181.out 0; have hfz19_1 := kF BK181.out 1
  go_wp2_with (first | ((with_reducible refine gC (f := 56) rfl ?_); refine zJ (some 9) Try.func56 #[.agg #[.slice A0_0 l0_0.length c0_0, .slice A0_1 l0_1.length c0_1]] ?_; (with_reducible refine (spec_MapValid.calls k _ _ l0_0 _ _ l0_1 false _ ?side1 ?side2 ?side3 ?side4 A6.out).mono ?_); (case side1 => exact zC HR0_0 HB); (case side2 => exact HC0_0.out); (case side3 => exact zC HR0_1 HB); (case side4 => exact HC0_1.out); rintro e w20 ⟨rfl, hb⟩; refine ⟨_, rfl, ?_⟩; replace BK181 := zK BK181 hb; replace HB := zB HB hb; (try clear hb)))
  go_meet
  case rel => exact ⟨_, (true), zt, H', zo, ⟨zK_ BK181⟩, ⟨zB_ HB⟩⟩
 case rest =>
  clear HC4; (try clear c1); (try clear c2); (try clear p2); (try clear c5); (try clear p6); (try clear c7); (try clear c9); (try clear c10); (try clear c10b0); (try clear c17); (try clear hcz11_0); (try clear hcz11_1); (try clear hcz13_0); (try clear hcz13_1); (try clear hcz14_0); (try clear hcz14_1); (try clear hcz16_0); (try clear hcz16_1); (try clear hcz17_0); (try clear hcz17_1); (try clear hcz19_0); (try clear hcz19_1); (try clear hfz11_0); (try clear hfz11_1); (try clear hfz13_0); (try clear hfz13_1); (try clear hfz14_0); (try clear hfz14_1); (try clear hfz16_0); (try clear hfz16_1); (try clear hfz17_0); (try clear hfz17_1); (try clear hfz19_0); (try clear hfz19_1); obtain ⟨kq, x32_3, rfl, HA, HJ3, BK181, HB⟩ := hcut
  cases kq with
  | zero => exact absurd HA.out (by simp [spec_VoltageValid.j0])
  | succ kj3 =>
   have H := HA.out; clear HA; simp only [spec_VoltageValid.j0] at H
   by_cases c21 : x32_3 = true
   ·subst c21
    rw [if_pos rfl] at H; obtain rfl := sI H
    go_wp2
    go_ret
    exact ⟨by first | rfl | (simp [*] <;> rfl), zB_ HB⟩
   replace c21 := Bool.eq_false_iff.mpr c21; subst c21
   rw [if_neg (show ¬ (false = true) by decide)] at H
   have H' := A0_ H; clear H
   go_wp2
   go_loopg [7] kj3 (fun kq v7 w' => ∃ (x7_2 : Int), v7 = .int .i64 x7_2 ∧ Aside0 (spec_VoltageValid.l0 kq a1 l2 x7_2 = some r) ∧ Aside0 (kq ≤ kj3) ∧ Aside0 (w'.heap[gb181]? = some (.cells #[(.slice A0_0 l0_0.length c0_0), (.slice A0_1 l0_1.length c0_1)] 29 (0, 0))) ∧ Aside0 (Below w.heap.size w w'))
   case atStart => exact ⟨(0), zt, H', ⟨Nat.le_refl _⟩, ⟨zK_ BK181⟩, ⟨zB_ HB⟩⟩
   case round =>
    clear H'; (try clear c1); (try clear c2); (try clear p2); (try clear c5); (try clear p6); (try clear c7); (try clear c9); (try clear c10); (try clear c10b0); (try clear c17); (try clear c21); (try clear hcz11_0); (try clear hcz11_1); (try clear hcz13_0); (try clear hcz13_1); (try clear hcz14_0); (try clear hcz14_1); (try clear hcz16_0); (try clear hcz16_1); (try clear hcz17_0); (try clear hcz17_1); (try clear hcz19_0); (try clear hcz19_1); (try clear hfz11_0); (try clear hfz11_1); (try clear hfz13_0); (try clear hfz13_1); (try clear hfz14_0); (try clear hfz14_1); (try clear hfz16_0); (try clear hfz16_1); (try clear hfz17_0); (try clear hfz17_1); (try clear hfz19_0); (try clear hfz19_1); (try clear p2); (try clear p6); obtain ⟨x7_2, rfl, HA, HK2, BK181, HB⟩ := hrel
    cases gk with
    | zero => exact absurd HA.out (by simp [spec_VoltageValid.l0])
    | succ k2 =>
     have H := HA.out; clear HA; simp only [spec_VoltageValid.l0] at H
     by_cases c22 : x7_2 < (l2.length : Int)
     ·rw [if_pos c22] at H
      have c22b0 := dT c22; clear c22
      by_cases c23 : 0 ≤ x7_2
      ·rw [if_pos c23] at H
       have c23b0 := dT c23; clear c23; obtain ⟨t185, A24, H⟩ := zbind H
       by_cases c25 : t185 = true
       ·subst c25
        rw [if_pos rfl] at H
        by_cases c26 : ((rd_L1 l2 x7_2).length : Int) = a1
        ·rw [if_pos c26] at H
         have c26b0 : (((rd_L1 l2 x7_2).length : Int) == a1) = true := beq_iff_eq.mpr c26
         have c26b1 : (((rd_L1 l2 x7_2).length : Int) != a1) = false := bne_eq_false_iff_eq.mpr c26
         clear c26; have H' := A0_ H; clear H
         have p184 : 0 ≤ (x7_2 : Int) := zd
         have q184 : x7_2 < (l2.length : Int) := zd
         obtain ⟨ad184, A184_0, c184_0, e184, hx184_0, hl184_0, hi184_0⟩ := at_L1 HR2.out x7_2 p184 q184
         cases e184
         try replace hx184_0 := (HB.out.cell (wL w _ hx184_0)).trans hx184_0
         have HR184_0 := A0_ hi184_0; have HC184_0 := A0_ hl184_0; clear hi184_0 hl184_0; replace p184 := eq_true p184; replace q184 := eq_true q184
         go_wp2_with (first | ((with_reducible refine gC (f := 58) rfl ?_); refine zJ (some 43) Try.func58 #[.slice A184_0 (rd_L1 l2 x7_2).length c184_0] ?_; (with_reducible refine (spec_PermValid.calls k2 _ _ (rd_L1 l2 x7_2) true _ ?side1 ?side2 A24.out).mono ?_); (case side1 => exact zC HR184_0 HB); (case side2 => exact HC184_0.out); rintro e w' ⟨rfl, ⟨nd, rfl⟩⟩; refine ⟨_, rfl, ?_⟩; have p186 : 0 ≤ (x7_2 : Int) := zd; have q186 : x7_2 < (l2.length : Int) := zd; obtain ⟨ad186, A186_0, c186_0, e186, hx186_0, hl186_0, hi186_0⟩ := at_L1 HR2.out x7_2 p186 q186; obtain rfl : ad184 = ad186 := (by injection e186); try replace hx186_0 := (HB.out.cell (wL w _ hx186_0)).trans hx186_0; have HR186_0 := A0_ hi186_0; have HC186_0 := A0_ hl186_0; clear hi186_0 hl186_0; replace p186 := eq_true p186; replace q186 := eq_true q186; have ea_ := sI (hx184_0.symm.trans hx186_0); injection ea_ with ea_ en_ ec_; subst ea_; subst ec_; clear en_))
         go_roundg k2
         case measure => have := HJ3.out; have := HK2.out; omega
         case rel => exact ⟨(wrap64 (x7_2 + 1)), zt, H', ⟨by have := HJ3.out; have := HK2.out; omega⟩, ⟨zK_ BK181⟩, ⟨zB_ HB⟩⟩
        rw [if_neg c26] at H
        have c26b0 : (((rd_L1 l2 x7_2).length : Int) == a1) = false := beq_eq_false_iff_ne.mpr c26
        have c26b1 : (((rd_L1 l2 x7_2).length : Int) != a1) = true := bne_iff_ne.mpr c26
        obtain rfl := sI H
        have p184 : 0 ≤ (x7_2 : Int) := zd
        have q184 : x7_2 < (l2.length : Int) := zd
        obtain ⟨ad184, A184_0, c184_0, e184, hx184_0, hl184_0, hi184_0⟩ := at_L1 HR2.out x7_2 p184 q184
        cases e184
        try replace hx184_0 := (HB.out.cell (wL w _ hx184_0)).trans hx184_0
        have HR184_0 := A0_ hi184_0; have HC184_0 := A0_ hl184_0; clear hi184_0 hl184_0; replace p184 := eq_true p184; replace q184 := eq_true q184
        go_wp2_with (first | ((with_reducible refine gC (f := 58) rfl ?_); refine zJ (some 43) Try.func58 #[.slice A184_0 (rd_L1 l2 x7_2).length c184_0] ?_; (with_reducible refine (spec_PermValid.calls k2 _ _ (rd_L1 l2 x7_2) true _ ?side1 ?side2 A24.out).mono ?_); (case side1 => exact zC HR184_0 HB); (case side2 => exact HC184_0.out); rintro e w' ⟨rfl, ⟨nd, rfl⟩⟩; refine ⟨_, rfl, ?_⟩; have p186 : 0 ≤ (x7_2 : Int) := zd; have q186 : x7_2 < (l2.length : Int) := zd; obtain ⟨ad186, A186_0, c186_0, e186, hx186_0, hl186_0, hi186_0⟩ := at_L1 HR2.out x7_2 p186 q186; obtain rfl : ad184 = ad186 := (by injection e186); try replace hx186_0 := (HB.out.cell (wL w _ hx186_0)).trans hx186_0; have HR186_0 := A0_ hi186_0; have HC186_0 := A0_ hl186_0; clear hi186_0 hl186_0; replace p186 := eq_true p186; replace q186 := eq_true q186; have ea_ := sI (hx184_0.symm.trans hx186_0); injection ea_ with ea_ en_ ec_; subst ea_; subst ec_; clear en_))
        go_ret
        exact ⟨by first | rfl | (simp [*] <;> rfl), zB_ HB⟩
       replace c25 := Bool.eq_false_iff.mpr c25; subst c25
       rw [if_neg (show ¬ (false = true) by decide)] at H
       obtain rfl := sI H
       have p184 : 0 ≤ (x7_2 : Int) := zd
       have q184 : x7_2 < (l2.length : Int) := zd
       obtain ⟨ad184, A184_0, c184_0, e184, hx184_0, hl184_0, hi184_0⟩ := at_L1 HR2.out x7_2 p184 q184
       cases e184
       try replace hx184_0 := (HB.out.cell (wL w _ hx184_0)).trans hx184_0
       have HR184_0 := A0_ hi184_0; have HC184_0 := A0_ hl184_0; clear hi184_0 hl184_0; replace p184 := eq_true p184; replace q184 := eq_true q184
       go_wp2_with (first | ((with_reducible refine gC (f := 58) rfl ?_); refine zJ (some 43) Try.func58 #[.slice A184_0 (rd_L1 l2 x7_2).length c184_0] ?_; (with_reducible refine (spec_PermValid.calls k2 _ _ (rd_L1 l2 x7_2) false _ ?side1 ?side2 A24.out).mono ?_); (case side1 => exact zC HR184_0 HB); (case side2 => exact HC184_0.out); rintro e w' ⟨rfl, ⟨nd, rfl⟩⟩; refine ⟨_, rfl, ?_⟩))
       go_ret
       exact ⟨by first | rfl | (simp [*] <;> rfl), zB_ HB⟩
      rw [if_neg c23] at H
      exact absurd H (by simp)
     rw [if_neg c22] at H; have c22b0 := dF c22; clear c22; obtain rfl := sI H
     go_wp2
     go_ret
     exact ⟨by first | rfl | (simp [*] <;> rfl), zB_ HB⟩

/-! ### spec_l2Dart: function 77 -/
def spec_l2Dart.f (k : Nat) (l0_0 : List Int) (l0_1 : List Int) (a1 : Int) : Option (Bool) := (spec_MapValid.f k l0_0 l0_1).bind fun t188 => (if t188 = true then ((spec_l6In.f a1 0 (wrap64 ((l0_0.length : Int) - 1))).bind fun t189 => (some t189)) else (some false))
set_option maxHeartbeats 8000000 in
set_option maxRecDepth 100000 in
theorem spec_l2Dart.calls (k : Nat) (A0_0 : Option Addr) (c0_0 : Nat) (l0_0 : List Int) (A0_1 : Option Addr) (c0_1 : Nat) (l0_1 : List Int) (a1 : Int) (r : Bool) (w : World) (hr0_0 : Kd.C (Kd.int .i64) w A0_0 l0_0.length l0_0) (hc0_0 : l0_0.length ≤ c0_0) (hr0_1 : Kd.C (Kd.int .i64) w A0_1 l0_1.length l0_1) (hc0_1 : l0_1.length ≤ c0_1) (h : spec_l2Dart.f k l0_0 l0_1 a1 = some r) :
    Calls Try.prog 77 #[.agg #[.slice A0_0 l0_0.length c0_0, .slice A0_1 l0_1.length c0_1], .int .i64 a1] w fun e w' => e = .returned (.bool r) ∧ Below w.heap.size w w' := by
 have hu29 := Try.underlying29; have HR0_0 := A0_ hr0_0; have HC0_0 := A0_ hc0_0; clear hr0_0 hc0_0; have HR0_1 := A0_ hr0_1; have HC0_1 := A0_ hc0_1; clear hr0_1 hc0_1
 have HB := A0_ (Below.refl w.heap.size w)
 have H : ((spec_MapValid.f k l0_0 l0_1).bind fun t188 => (if t188 = true then ((spec_l6In.f a1 0 (wrap64 ((l0_0.length : Int) - 1))).bind fun t189 => (some t189)) else (some false))) = some r := h
 clear h; obtain ⟨t188, A3, H⟩ := zbind H
 by_cases c4 : t188 = true
 ·subst c4
  rw [if_pos rfl] at H; obtain ⟨t189, A5, H⟩ := zbind H; obtain rfl := sI H
  go_enter Try.func77, Try.ntmps77
  go_wp2_with (first | ((with_reducible refine gD (N := 2) rfl ?_); refine zX (N := 2) (cs := #[.slice A0_0 l0_0.length c0_0, .slice A0_1 l0_1.length c0_1]) (t := 29) ?_; intro gb187 hg w6 hbox hb; have BK187 := A0_ (hbox); have GW187 := zG hg HB; have GE187 := zG hg HB; replace HB := zB HB hb; clear hb hbox hg; have hcz7_0 := zc0 BK187; have hcz7_1 := zc1 BK187; have hfz7_0 := kF BK187.out 0; have hfz7_1 := kF BK187.out 1) | ((with_reducible refine gC (f := 56) rfl ?_); refine zJ (some 6) Try.func56 #[.agg #[.slice A0_0 l0_0.length c0_0, .slice A0_1 l0_1.length c0_1]] ?_; (with_reducible refine (spec_MapValid.calls k _ _ l0_0 _ _ l0_1 true _ ?side1 ?side2 ?side3 ?side4 A3.out).mono ?_); (case side1 => exact zC HR0_0 HB); (case side2 => exact HC0_0.out); (case side3 => exact zC HR0_1 HB); (case side4 => exact HC0_1.out); rintro e w8 ⟨rfl, hb⟩; refine ⟨_, rfl, ?_⟩; replace BK187 := zK BK187 hb; replace HB := zB HB hb; (try clear hb); have hcz9_0 := zc0 BK187; have hcz9_1 := zc1 BK187; have hfz9_0 := kF BK187.out 0; have hfz9_1 := kF BK187.out 1) | (go_at_call 57; (with_reducible refine (spec_l6In.calls a1 0 (wrap64 ((l0_0.length : Int) - 1)) t189 _ A5.out).mono ?_); rintro e w' ⟨rfl, ⟨nd, rfl⟩⟩))
  go_ret
  exact ⟨by first | rfl | (simp [*] <;> rfl), zB_ HB⟩
 replace c4 := Bool.eq_false_iff.mpr c4; subst c4
 rw [if_neg (show ¬ (false = true) by decide)] at H
 obtain rfl := sI H
 go_enter Try.func77, Try.ntmps77
 go_wp2_with (first | ((with_reducible refine gD (N := 2) rfl ?_); refine zX (N := 2) (cs := #[.slice A0_0 l0_0.length c0_0, .slice A0_1 l0_1.length c0_1]) (t := 29) ?_; intro gb187 hg w10 hbox hb; have BK187 := A0_ (hbox); have GW187 := zG hg HB; have GE187 := zG hg HB; replace HB := zB HB hb; clear hb hbox hg; have hcz11_0 := zc0 BK187; have hcz11_1 := zc1 BK187; have hfz11_0 := kF BK187.out 0; have hfz11_1 := kF BK187.out 1) | ((with_reducible refine gC (f := 56) rfl ?_); refine zJ (some 6) Try.func56 #[.agg #[.slice A0_0 l0_0.length c0_0, .slice A0_1 l0_1.length c0_1]] ?_; (with_reducible refine (spec_MapValid.calls k _ _ l0_0 _ _ l0_1 false _ ?side1 ?side2 ?side3 ?side4 A3.out).mono ?_); (case side1 => exact zC HR0_0 HB); (case side2 => exact HC0_0.out); (case side3 => exact zC HR0_1 HB); (case side4 => exact HC0_1.out); rintro e w12 ⟨rfl, hb⟩; refine ⟨_, rfl, ?_⟩; replace BK187 := zK BK187 hb; replace HB := zB HB hb; (try clear hb)))
 go_ret
 exact ⟨by first | rfl | (simp [*] <;> rfl), zB_ HB⟩

/-! ### spec_l1Mul: function 67 -/
def spec_l1Mul.l0 : Nat → List Int → List Int → List Int → Int → Option (List Int)
  | 0, _, _, _, _ => none
  | k + 1, x0, x1, x5, x6 => if x6 < (x0.length : Int) then (if 0 ≤ x6 then (if 0 ≤ (rd x0 x6) then (if (rd x0 x6) < (x1.length : Int) then (if x5.length < 17592186044416 then (spec_l1Mul.l0 k x0 x1 (x5 ++ [rd x1 (rd x0 x6)]) (wrap64 (x6 + 1))) else (none)) else (none)) else (none)) else (none)) else (some x5)
def spec_l1Mul.f (k : Nat) (l0 : List Int) (l1 : List Int) : Option (List Int) := spec_l1Mul.l0 k l0 l1 (([] : List Int)) 0
set_option maxHeartbeats 8000000 in
set_option maxRecDepth 100000 in
theorem spec_l1Mul.calls (k : Nat) (A0 : Option Addr) (c0 : Nat) (l0 : List Int) (A1 : Option Addr) (c1 : Nat) (l1 : List Int) (r : List Int) (w : World) (hr0 : Kd.C (Kd.int .i64) w A0 l0.length l0) (hc0 : l0.length ≤ c0) (hr1 : Kd.C (Kd.int .i64) w A1 l1.length l1) (hc1 : l1.length ≤ c1) (h : spec_l1Mul.f k l0 l1 = some r) :
    Calls Try.prog 67 #[.slice A0 l0.length c0, .slice A1 l1.length c1] w fun e w' => ∃ v0_ : Value, e = .returned (v0_) ∧ Kd.R (Kd.int .i64) 3 w' w.heap.size (fun _ => True) v0_ r ∧ Below w.heap.size w w' := by
 have HR0 := A0_ hr0; have HC0 := A0_ hc0; clear hr0 hc0; have HR1 := A0_ hr1; have HC1 := A0_ hc1; clear hr1 hc1
 have HB := A0_ (Below.refl w.heap.size w)
 have H : (spec_l1Mul.l0 k l0 l1 (([] : List Int)) 0) = some r := h
 clear h
 obtain ⟨y190, hy190⟩ : ∃ y_ : List Int, y_ = (([] : List Int)) := ⟨_, rfl⟩
 replace H : (spec_l1Mul.l0 k l0 l1 y190 0) = some r := zH hy190 H
 have Ny190 := A0_ hy190; clear hy190; have H' := A0_ H; clear H
 go_enter Try.func67, Try.ntmps67
 go_wp2_with (first | ((with_reducible refine gD (N := 7) rfl ?_); refine Kd.R_lit (Kd.int .i64) _ 3 ?hg (N := 7) ?hd (xs := ([] : List Int)) (inner := []) (ok := fun _ => True) (okp := fun _ => True) ?hr ?hp (fun _ hk => hk) trivial (Below.refl _ _) (Nat.le_refl _) (by simp) ?_; (case hd => rfl); (case hg => rfl); (case hr => first | (go_simp; done) | (go_simp; rfl)); (case hp => exact (Reps.none _ _)); intro v191 w3 ho4 hb hg_ hnew_; clear hg_ hnew_; (first | rw [← Ny190.out] at ho4 | (simp only [Int.reduceToNat] at ho4; rw [← Ny190.out] at ho4)); have HO192 := A0_ (rL ho4 (bZ (zB_ HB))); replace HB := zB HB hb; clear hb ho4))
 go_loopg [5, 6] k (fun kq v5 v6 w' => ∃ (x5_1 : List Int) (x6_1 : Int), v6 = .int .i64 x6_1 ∧ Aside0 (spec_l1Mul.l0 kq l0 l1 x5_1 x6_1 = some r) ∧ Aside0 (kq ≤ k) ∧ Aside0 (Kd.R (Kd.int .i64) 3 w' w.heap.size (fun _ => True) v5 x5_1) ∧ Aside0 (Below w.heap.size w w'))
 case atStart => exact ⟨(y190), (0), zt, H', ⟨Nat.le_refl _⟩, ⟨zR_ HO192⟩, ⟨zB_ HB⟩⟩
 case round =>
  clear H'; (try clear c1); (try clear p2); obtain ⟨x5_1, x6_1, rfl, HA, HK1, HO_5, HB⟩ := hrel
  cases gk with
  | zero => exact absurd HA.out (by simp [spec_l1Mul.l0])
  | succ k1 =>
   have H := HA.out; clear HA; simp only [spec_l1Mul.l0] at H
   by_cases c5 : x6_1 < (l0.length : Int)
   ·rw [if_pos c5] at H
    have c5b0 := dT c5; clear c5
    by_cases c6 : 0 ≤ x6_1
    ·rw [if_pos c6] at H
     have c6b0 := dT c6; clear c6
     by_cases c7 : 0 ≤ (rd l0 x6_1)
     ·rw [if_pos c7] at H
      have c7b0 := dT c7; clear c7
      by_cases c8 : (rd l0 x6_1) < (l1.length : Int)
      ·rw [if_pos c8] at H
       have c8b0 := dT c8; clear c8
       by_cases c9 : x5_1.length < 17592186044416
       ·rw [if_pos c9] at H
        have LMc9 := A0_ c9; clear c9
        obtain ⟨y195, hy195⟩ : ∃ y_ : List Int, y_ = (x5_1 ++ [rd l1 (rd l0 x6_1)]) := ⟨_, rfl⟩
        replace H : (spec_l1Mul.l0 k1 l0 l1 y195 (wrap64 (x6_1 + 1))) = some r := zH hy195 H
        have Ny195 := A0_ hy195; clear hy195; have H' := A0_ H; clear H
        have p193 : 0 ≤ (x6_1 : Int) := zd
        have q193 : x6_1 < (l0.length : Int) := zd
        obtain ⟨ad193, e193, hx193_0⟩ := tI HR0.out x6_1 p193 q193
        cases e193
        try replace hx193_0 := (HB.out.cell (wL w _ hx193_0)).trans hx193_0
        replace p193 := eq_true p193; replace q193 := eq_true q193
        have p194 : 0 ≤ ((rd l0 x6_1) : Int) := zd
        have q194 : (rd l0 x6_1) < (l1.length : Int) := zd
        obtain ⟨ad194, e194, hx194_0⟩ := tI HR1.out (rd l0 x6_1) p194 q194
        cases e194
        try replace hx194_0 := (HB.out.cell (wL w _ hx194_0)).trans hx194_0
        replace p194 := eq_true p194; replace q194 := eq_true q194
        go_wp2_with (first | ((with_reducible refine gB (b := .append) (xs := #[.tmp 14, .tmp 22]) rfl ?_); at_builtin; refine Kd.R_append (Kd.int .i64) (w0 := w) w.heap.size rfl (.tmp 14) (.tmp 22) 22 3 (.int .i64 0) 8 rfl Try.underlying22 info3 rfl (by decide) (by omega) u5 x5_1 (rd l1 (rd l0 x6_1)) [.int .i64 (rd l1 (rd l0 x6_1))] (fun _ => True) (fun _ => False) rfl rfl ?aP (fun _ hk => hk.elim) ?aF ?aO ?aB ?aS ?aL ?_; (case aP => exact rfl); (case aB => exact (zB_ HB)); (case aF => exact (fun _ _ => trivial)); (case aO => exact (zR_ HO_5)); (case aS => exact (bZ (zB_ HB))); (case aL => have := LMc9.out; omega); intro v196 w10 ho hb hg hat; rw [← Ny195.out] at ho; replace HB := A0_ (hb); have HO197 := A0_ (ho); clear HO_5 ho hb hg hat))
        go_roundg k1
        case measure => have := HK1.out; omega
        case rel => exact ⟨(y195), (wrap64 (x6_1 + 1)), zt, H', ⟨by have := HK1.out; omega⟩, ⟨zR_ HO197⟩, ⟨zB_ HB⟩⟩
       rw [if_neg c9] at H
       exact absurd H (by simp)
      rw [if_neg c8] at H
      exact absurd H (by simp)
     rw [if_neg c7] at H
     exact absurd H (by simp)
    rw [if_neg c6] at H
    exact absurd H (by simp)
   rw [if_neg c5] at H; have c5b0 := dF c5; clear c5; obtain rfl := sI H
   go_wp2
   go_ret
   exact ⟨_, by first | rfl | (simp [*] <;> rfl), zR_ HO_5, zB_ HB⟩

end Go.Proofs.Ytmcgkckdnelcdaa.PFnExactCoverConj
