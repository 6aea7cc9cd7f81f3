-- Made by a program of this session (wip/tools) out of the loaded program; not trusted: Lean checks it.
import Derived.Test.YtmcgkckdnelcdaaPFnTrivialx0
import Derived.Test.YtmcgkckdnelcdaaPFnTrivialx1
-- packed
namespace Go.Proofs.Ytmcgkckdnelcdaa.PFnTrivial
open Go.RowKit Go.Proofs.YtmcgkckdnelcdaaW.PrintWords Go.Proofs.YtmcgkckdnelcdaaW.PrintLast Go.Proofs.YtmcgkckdnelcdaaW.PrintMore
attribute [local go_sem] max2_int min2_int max_two min_two max_three min_three max_four min_four   -- for this text's walks alone
set_option linter.unusedVariables false
set_option linter.unusedSimpArgs false

/-! ### spec_VoltageValid: function 17 -/
mutual
def spec_VoltageValid.j0 : Nat → Int → List (List Int) → Bool → Option (Bool)
  | 0, _, _, _ => none
  | k + 1, x1, x2, x32 => if x32 = true then (some false) else (spec_VoltageValid.l0 k x1 x2 0)
def spec_VoltageValid.l0 : Nat → Int → List (List Int) → Int → Option (Bool)
  | 0, _, _, _ => none
  | k + 1, x1, x2, x7 => if x7 < (x2.length : Int) then (if 0 ≤ x7 then ((spec_PermValid.f k (rd_L1 x2 x7)).bind fun t140 => (if t140 = true then (if ((rd_L1 x2 x7).length : Int) = x1 then (spec_VoltageValid.l0 k x1 x2 (wrap64 (x7 + 1))) else (some false)) else (some false))) else (none)) else (some true)
end
def spec_VoltageValid.f (k : Nat) (l0_0 : List Int) (l0_1 : List Int) (a1 : Int) (l2 : List (List Int)) : Option (Bool) := (spec_MapValid.f k l0_0 l0_1).bind fun t137 => (if t137 = true then ((spec_l6In.f a1 1 6).bind fun t138 => (if t138 = true then (if (wrap64 (a1 * (l0_0.length : Int))) > 12 then (spec_VoltageValid.j0 k a1 l2 true) else (spec_VoltageValid.j0 k a1 l2 ((l2.length : Int) != (wrap64 ((l0_1.length : Int) / 2))))) else (spec_VoltageValid.j0 k a1 l2 true))) else (spec_VoltageValid.j0 k a1 l2 true))
set_option maxHeartbeats 8000000 in
set_option maxRecDepth 100000 in
theorem spec_VoltageValid.calls (k : Nat) (A0_0 : Option Addr) (c0_0 : Nat) (l0_0 : List Int) (A0_1 : Option Addr) (c0_1 : Nat) (l0_1 : List Int) (a1 : Int) (A2 : Option Addr) (c2 : Nat) (l2 : List (List Int)) (r : Bool) (w : World) (hr0_0 : Kd.C (Kd.int .i64) w A0_0 l0_0.length l0_0) (hc0_0 : l0_0.length ≤ c0_0) (hr0_1 : Kd.C (Kd.int .i64) w A0_1 l0_1.length l0_1) (hc0_1 : l0_1.length ≤ c0_1) (hr2 : Kd.C (Kd.slice 3 (Kd.int .i64)) w A2 l2.length l2) (hc2 : l2.length ≤ c2) (h : spec_VoltageValid.f k l0_0 l0_1 a1 l2 = some r) :
    Calls Try.prog 17 #[.agg #[.slice A0_0 l0_0.length c0_0, .slice A0_1 l0_1.length c0_1], .int .i64 a1, .slice A2 l2.length c2] w fun e w' => e = .returned (.bool r) ∧ Below w.heap.size w w' := by
 have hu29 := Try.underlying29; have HR0_0 := A0_ hr0_0; have HC0_0 := A0_ hc0_0; clear hr0_0 hc0_0; have HR0_1 := A0_ hr0_1; have HC0_1 := A0_ hc0_1; clear hr0_1 hc0_1; have HR2 := A0_ hr2; have HC2 := A0_ hc2; clear hr2 hc2
 have HB := A0_ (Below.refl w.heap.size w)
 have H : ((spec_MapValid.f k l0_0 l0_1).bind fun t137 => (if t137 = true then ((spec_l6In.f a1 1 6).bind fun t138 => (if t138 = true then (if (wrap64 (a1 * (l0_0.length : Int))) > 12 then (spec_VoltageValid.j0 k a1 l2 true) else (spec_VoltageValid.j0 k a1 l2 ((l2.length : Int) != (wrap64 ((l0_1.length : Int) / 2))))) else (spec_VoltageValid.j0 k a1 l2 true))) else (spec_VoltageValid.j0 k a1 l2 true))) = some r := h
 clear h; have HC4 := A0_ H; clear H
 go_enter Try.func17, Try.ntmps17
 go_upto_region 1 with (first | ((with_reducible refine gD (N := 3) rfl ?_); refine zX (N := 3) (cs := #[.slice A0_0 l0_0.length c0_0, .slice A0_1 l0_1.length c0_1]) (t := 29) ?_; intro gb136 hg w5 hbox hb; have BK136 := A0_ (hbox); have GW136 := zG hg HB; have GE136 := zG hg HB; replace HB := zB HB hb; clear hb hbox hg))
 (try simp only [Act.put, List.setIfInBounds_toArray, List.set_cons_zero, List.set_cons_succ])
 go_cut [32] (fun v32 wc => ∃ (kq : Nat) (x32_3 : Bool), v32 = .bool x32_3 ∧ Aside0 (spec_VoltageValid.j0 kq a1 l2 x32_3 = some r) ∧ Aside0 (kq ≤ k) ∧ Aside0 (wc.heap[gb136]? = some (.cells #[(.slice A0_0 l0_0.length c0_0), (.slice A0_1 l0_1.length c0_1)] 29 (0, 0))) ∧ Aside0 (Below w.heap.size w wc))
 case first =>
  have H := HC4.out; clear HC4; obtain ⟨t137, A6, H⟩ := zbind H
  by_cases c7 : t137 = true
  ·subst c7
   rw [if_pos rfl] at H; obtain ⟨t138, A8, H⟩ := zbind H
   by_cases c9 : t138 = true
   ·subst c9
    rw [if_pos rfl] at H
    by_cases c10 : (wrap64 (a1 * (l0_0.length : Int))) > 12
    ·rw [if_pos c10] at H
     have c10b0 : decide (12 < (wrap64 (a1 * (l0_0.length : Int)))) = true := dT c10
     clear c10
     (first | rw [c10b0] | (simp only [i64_w, i32_w]; rw [c10b0]) | skip)
     have H' := A0_ H; clear H; have hcz11_0 := zc0 BK136; have hcz11_1 := zc1 BK136; have hfz11_0 := kF BK136.out 0; have hfz11_1 := kF BK136.out 1
     go_wp2_with (first | ((with_reducible refine gC (f := 56) rfl ?_); refine zJ (some 9) Try.func56 #[.agg #[.slice A0_0 l0_0.length c0_0, .slice A0_1 l0_1.length c0_1]] ?_; (with_reducible refine (spec_MapValid.calls k _ _ l0_0 _ _ l0_1 true _ ?side1 ?side2 ?side3 ?side4 A6.out).mono ?_); (case side1 => exact zC HR0_0 HB); (case side2 => exact HC0_0.out); (case side3 => exact zC HR0_1 HB); (case side4 => exact HC0_1.out); rintro e w12 ⟨rfl, hb⟩; refine ⟨_, rfl, ?_⟩; replace BK136 := zK BK136 hb; replace HB := zB HB hb; (try clear hb)) | (go_at_call 57; (with_reducible refine (spec_l6In.calls a1 1 6 true _ A8.out).mono ?_); rintro e w' ⟨rfl, ⟨nd, rfl⟩⟩; have hcz13_0 := zc0 BK136; have hcz13_1 := zc1 BK136; have hfz13_0 := kF BK136.out 0; have hfz13_1 := kF BK136.out 1))
     go_meet
     case rel => exact ⟨_, (true), zt, H', zo, ⟨zK_ BK136⟩, ⟨zB_ HB⟩⟩
    rw [if_neg c10] at H
    have c10b0 : decide (12 < (wrap64 (a1 * (l0_0.length : Int)))) = false := dF c10
    clear c10
    (first | rw [c10b0] | (simp only [i64_w, i32_w]; rw [c10b0]) | skip)
    have H' := A0_ H; clear H; have hcz14_0 := zc0 BK136; have hcz14_1 := zc1 BK136; have hfz14_0 := kF BK136.out 0; have hfz14_1 := kF BK136.out 1
    go_wp2_with (first | ((with_reducible refine gC (f := 56) rfl ?_); refine zJ (some 9) Try.func56 #[.agg #[.slice A0_0 l0_0.length c0_0, .slice A0_1 l0_1.length c0_1]] ?_; (with_reducible refine (spec_MapValid.calls k _ _ l0_0 _ _ l0_1 true _ ?side1 ?side2 ?side3 ?side4 A6.out).mono ?_); (case side1 => exact zC HR0_0 HB); (case side2 => exact HC0_0.out); (case side3 => exact zC HR0_1 HB); (case side4 => exact HC0_1.out); rintro e w15 ⟨rfl, hb⟩; refine ⟨_, rfl, ?_⟩; replace BK136 := zK BK136 hb; replace HB := zB HB hb; (try clear hb)) | (go_at_call 57; (with_reducible refine (spec_l6In.calls a1 1 6 true _ A8.out).mono ?_); rintro e w' ⟨rfl, ⟨nd, rfl⟩⟩; have hcz16_0 := zc0 BK136; have hcz16_1 := zc1 BK136; have hfz16_0 := kF BK136.out 0; have hfz16_1 := kF BK136.out 1))
    go_meet
    case rel => exact ⟨_, (((l2.length : Int) != (wrap64 ((l0_1.length : Int) / 2)))), zt, H', zo, ⟨zK_ BK136⟩, ⟨zB_ HB⟩⟩
   replace c9 := Bool.eq_false_iff.mpr c9; subst c9
   rw [if_neg (show ¬ (false = true) by decide)] at H
   have H' := A0_ H; clear H; have hcz17_0 := zc0 BK136; have hcz17_1 := zc1 BK136; have hfz17_0 := kF BK136.out 0; have hfz17_1 := kF BK136.out 1
   go_wp2_with (first | ((with_reducible refine gC (f := 56) rfl ?_); refine zJ (some 9) Try.func56 #[.agg #[.slice A0_0 l0_0.length c0_0, .slice A0_1 l0_1.length c0_1]] ?_; (with_reducible refine (spec_MapValid.calls k _ _ l0_0 _ _ l0_1 true _ ?side1 ?side2 ?side3 ?side4 A6.out).mono ?_); (case side1 => exact zC HR0_0 HB); (case side2 => exact HC0_0.out); (case side3 => exact zC HR0_1 HB); (case side4 => exact HC0_1.out); rintro e w18 ⟨rfl, hb⟩; refine ⟨_, rfl, ?_⟩; replace BK136 := zK BK136 hb; replace HB := zB HB hb; (try clear hb)) | (go_at_call 57; (with_reducible refine (spec_l6In.calls a1 1 6 false _ A8.out).mono ?_); rintro e w' ⟨rfl, ⟨nd, rfl⟩⟩))
   go_meet
   case rel => exact ⟨_, (true), zt, H', zo, ⟨zK_ BK136⟩, ⟨zB_ HB⟩⟩
  replace c7 := Bool.eq_false_iff.mpr c7; subst c7
  rw [if_neg (show ¬ (false = true) by decide)] at H
  have H' := A0_ H; clear H; have hcz19_0 := zc0 BK136; have hcz19_1 := zc1 BK136; have hfz19_0 := kF BK136.out 0; have hfz19_1 := kF BK136.out 1
  go_wp2_with (first | ((with_reducible refine gC (f := 56) rfl ?_); refine zJ (some 9) Try.func56 #[.agg #[.slice A0_0 l0_0.length c0_0, .slice A0_1 l0_1.length c0_1]] ?_; (with_reducible refine (spec_MapValid.calls k _ _ l0_0 _ _ l0_1 false _ ?side1 ?side2 ?side3 ?side4 A6.out).mono ?_); (case side1 => exact zC HR0_0 HB); (case side2 => exact HC0_0.out); (case side3 => exact zC HR0_1 HB); (case side4 => exact HC0_1.out); rintro e w20 ⟨rfl, hb⟩; refine ⟨_, rfl, ?_⟩; replace BK136 := zK BK136 hb; replace HB := zB HB hb; (try clear hb)))
  go_meet
  case rel => exact ⟨_, (true), zt, H', zo, ⟨zK_ BK136⟩, ⟨zB_ HB⟩⟩
 case rest =>
  clear HC4; (try clear c1); (try clear c2); (try clear p2); (try clear c5); (try clear p6); (try clear c7); (try clear c9); (try clear c10); (try clear c10b0); (try clear c17); (try clear hcz11_0); (try clear hcz11_1); (try clear hcz13_0); (try clear hcz13_1); (try clear hcz14_0); (try clear hcz14_1); (try clear hcz16_0); (try clear hcz16_1); (try clear hcz17_0); (try clear hcz17_1); (try clear hcz19_0); (try clear hcz19_1); (try clear hfz11_0); (try clear hfz11_1); (try clear hfz13_0); (try clear hfz13_1); (try clear hfz14_0); (try clear hfz14_1); (try clear hfz16_0); (try clear hfz16_1); (try clear hfz17_0); (try clear hfz17_1); (try clear hfz19_0); (try clear hfz19_1); obtain ⟨kq, x32_3, rfl, HA, HJ3, BK136, HB⟩ := hcut
  cases kq with
  | zero => exact absurd HA.out (by simp [spec_VoltageValid.j0])
  | succ kj3 =>
   have H := HA.out; clear HA; simp only [spec_VoltageValid.j0] at H
   by_cases c21 : x32_3 = true
   ·subst c21
    rw [if_pos rfl] at H; obtain rfl := sI H
    go_wp2
    go_ret
    exact ⟨by first | rfl | (simp [*] <;> rfl), zB_ HB⟩
   replace c21 := Bool.eq_false_iff.mpr c21; subst c21
   rw [if_neg (show ¬ (false = true) by decide)] at H
   have H' := A0_ H; clear H
   go_wp2
   go_loopg [7] kj3 (fun kq v7 w' => ∃ (x7_2 : Int), v7 = .int .i64 x7_2 ∧ Aside0 (spec_VoltageValid.l0 kq a1 l2 x7_2 = some r) ∧ Aside0 (kq ≤ kj3) ∧ Aside0 (w'.heap[gb136]? = some (.cells #[(.slice A0_0 l0_0.length c0_0), (.slice A0_1 l0_1.length c0_1)] 29 (0, 0))) ∧ Aside0 (Below w.heap.size w w'))
   case atStart => exact ⟨(0), zt, H', ⟨Nat.le_refl _⟩, ⟨zK_ BK136⟩, ⟨zB_ HB⟩⟩
   case round =>
    clear H'; (try clear c1); (try clear c2); (try clear p2); (try clear c5); (try clear p6); (try clear c7); (try clear c9); (try clear c10); (try clear c10b0); (try clear c17); (try clear c21); (try clear hcz11_0); (try clear hcz11_1); (try clear hcz13_0); (try clear hcz13_1); (try clear hcz14_0); (try clear hcz14_1); (try clear hcz16_0); (try clear hcz16_1); (try clear hcz17_0); (try clear hcz17_1); (try clear hcz19_0); (try clear hcz19_1); (try clear hfz11_0); (try clear hfz11_1); (try clear hfz13_0); (try clear hfz13_1); (try clear hfz14_0); (try clear hfz14_1); (try clear hfz16_0); (try clear hfz16_1); (try clear hfz17_0); (try clear hfz17_1); (try clear hfz19_0); (try clear hfz19_1); (try clear p2); (try clear p6); obtain ⟨x7_2, rfl, HA, HK2, BK136, HB⟩ := hrel
    cases gk with
    | zero => exact absurd HA.out (by simp [spec_VoltageValid.l0])
    | succ k2 =>
     have H := HA.out; clear HA; simp only [spec_VoltageValid.l0] at H
     by_cases c22 : x7_2 < (l2.length : Int)
     ·rw [if_pos c22] at H
      have c22b0 := dT c22; clear c22
      by_cases c23 : 0 ≤ x7_2
      ·rw [if_pos c23] at H
       have c23b0 := dT c23; clear c23; obtain ⟨t140, A24, H⟩ := zbind H
       by_cases c25 : t140 = true
       ·subst c25
        rw [if_pos rfl] at H
        by_cases c26 : ((rd_L1 l2 x7_2).length : Int) = a1
        ·rw [if_pos c26] at H
         have c26b0 : (((rd_L1 l2 x7_2).length : Int) == a1) = true := beq_iff_eq.mpr c26
         have c26b1 : (((rd_L1 l2 x7_2).length : Int) != a1) = false := bne_eq_false_iff_eq.mpr c26
         clear c26; have H' := A0_ H; clear H
         have p139 : 0 ≤ (x7_2 : Int) := zd
         have q139 : x7_2 < (l2.length : Int) := zd
         obtain ⟨ad139, A139_0, c139_0, e139, hx139_0, hl139_0, hi139_0⟩ := at_L1 HR2.out x7_2 p139 q139
         cases e139
         try replace hx139_0 := (HB.out.cell (wL w _ hx139_0)).trans hx139_0
         have HR139_0 := A0_ hi139_0; have HC139_0 := A0_ hl139_0; clear hi139_0 hl139_0; replace p139 := eq_true p139; replace q139 := eq_true q139
         go_wp2_with (first | ((with_reducible refine gC (f := 58) rfl ?_); refine zJ (some 43) Try.func58 #[.slice A139_0 (rd_L1 l2 x7_2).length c139_0] ?_; (with_reducible refine (spec_PermValid.calls k2 _ _ (rd_L1 l2 x7_2) true _ ?side1 ?side2 A24.out).mono ?_); (case side1 => exact zC HR139_0 HB); (case side2 => exact HC139_0.out); rintro e w' ⟨rfl, ⟨nd, rfl⟩⟩; refine ⟨_, rfl, ?_⟩; have p141 : 0 ≤ (x7_2 : Int) := zd; have q141 : x7_2 < (l2.length : Int) := zd; obtain ⟨ad141, A141_0, c141_0, e141, hx141_0, hl141_0, hi141_0⟩ := at_L1 HR2.out x7_2 p141 q141; obtain rfl : ad139 = ad141 := (by injection e141); try replace hx141_0 := (HB.out.cell (wL w _ hx141_0)).trans hx141_0; have HR141_0 := A0_ hi141_0; have HC141_0 := A0_ hl141_0; clear hi141_0 hl141_0; replace p141 := eq_true p141; replace q141 := eq_true q141; have ea_ := sI (hx139_0.symm.trans hx141_0); injection ea_ with ea_ en_ ec_; subst ea_; subst ec_; clear en_))
         go_roundg k2
         case measure => have := HJ3.out; have := HK2.out; omega
         case rel => exact ⟨(wrap64 (x7_2 + 1)), zt, H', ⟨by have := HJ3.out; have := HK2.out; omega⟩, ⟨zK_ BK136⟩, ⟨zB_ HB⟩⟩
        rw [if_neg c26] at H
        have c26b0 : (((rd_L1 l2 x7_2).length : Int) == a1) = false := beq_eq_false_iff_ne.mpr c26
        have c26b1 : (((rd_L1 l2 x7_2).length : Int) != a1) = true := bne_iff_ne.mpr c26
        obtain rfl := sI H
        have p139 : 0 ≤ (x7_2 : Int) := zd
        have q139 : x7_2 < (l2.length : Int) := zd
        obtain ⟨ad139, A139_0, c139_0, e139, hx139_0, hl139_0, hi139_0⟩ := at_L1 HR2.out x7_2 p139 q139
        cases e139
        try replace hx139_0 := (HB.out.cell (wL w _ hx139_0)).trans hx139_0
        have HR139_0 := A0_ hi139_0; have HC139_0 := A0_ hl139_0; clear hi139_0 hl139_0; replace p139 := eq_true p139; replace q139 := eq_true q139
        go_wp2_with (first | ((with_reducible refine gC (f := 58) rfl ?_); refine zJ (some 43) Try.func58 #[.slice A139_0 (rd_L1 l2 x7_2).length c139_0] ?_; (with_reducible refine (spec_PermValid.calls k2 _ _ (rd_L1 l2 x7_2) true _ ?side1 ?side2 A24.out).mono ?_); (case side1 => exact zC HR139_0 HB); (case side2 => exact HC139_0.out); rintro e w' ⟨rfl, ⟨nd, rfl⟩⟩; refine ⟨_, rfl, ?_⟩; have p141 : 0 ≤ (x7_2 : Int) := zd; have q141 : x7_2 < (l2.length : Int) := zd; obtain ⟨ad141, A141_0, c141_0, e141, hx141_0, hl141_0, hi141_0⟩ := at_L1 HR2.out x7_2 p141 q141; obtain rfl : ad139 = ad141 := (by injection e141); try replace hx141_0 := (HB.out.cell (wL w _ hx141_0)).trans hx141_0; have HR141_0 := A0_ hi141_0; have HC141_0 := A0_ hl141_0; clear hi141_0 hl141_0; replace p141 := eq_true p141; replace q141 := eq_true q141; have ea_ := sI (hx139_0.symm.trans hx141_0); injection ea_ with ea_ en_ ec_; subst ea_; subst ec_; clear en_))
        go_ret
        exact ⟨by first | rfl | (simp [*] <;> rfl), zB_ HB⟩
       replace c25 := Bool.eq_false_iff.mpr c25; subst c25
       rw [if_neg (show ¬ (false = true) by decide)] at H
       obtain rfl := sI H
       have p139 : 0 ≤ (x7_2 : Int) := zd
       have q139 : x7_2 < (l2.length : Int) := zd
       obtain ⟨ad139, A139_0, c139_0, e139, hx139_0, hl139_0, hi139_0⟩ := at_L1 HR2.out x7_2 p139 q139
       cases e139
       try replace hx139_0 := (HB.out.cell (wL w _ hx139_0)).trans hx139_0
       have HR139_0 := A0_ hi139_0; have HC139_0 := A0_ hl139_0; clear hi139_0 hl139_0; replace p139 := eq_true p139; replace q139 := eq_true q139
       go_wp2_with (first | ((with_reducible refine gC (f := 58) rfl ?_); refine zJ (some 43) Try.func58 #[.slice A139_0 (rd_L1 l2 x7_2).length c139_0] ?_; (with_reducible refine (spec_PermValid.calls k2 _ _ (rd_L1 l2 x7_2) false _ ?side1 ?side2 A24.out).mono ?_); (case side1 => exact zC HR139_0 HB); (case side2 => exact HC139_0.out); rintro e w' ⟨rfl, ⟨nd, rfl⟩⟩; refine ⟨_, rfl, ?_⟩))
       go_ret
       exact ⟨by first | rfl | (simp [*] <;> rfl), zB_ HB⟩
      rw [if_neg c23] at H
      exact absurd H (by simp)
     rw [if_neg c22] at H; have c22b0 := dF c22; clear c22; obtain rfl := sI H
     go_wp2
     go_ret
     exact ⟨by first | rfl | (simp [*] <;> rfl), zB_ HB⟩

/-! ### spec_CoverTrivial: function 23 -/
def spec_CoverTrivial.l0 : Nat → Int → List (List Int) → Int → List Int → List Int → Option ((List (List Int)) × Bool)
  | 0, _, _, _, _, _ => none
  | k + 1, x1, x6, x7, x143000, x143001 => if x7 < (wrap64 ((x143001.length : Int) / 2)) then ((spec_MapValid.f k x143000 x143001).bind fun t146 => (if t146 = true then ((spec_l6In.f x1 1 6).bind fun t147 => (if t147 = true then ((spec_l1Same.f k x1).bind fun t148 => (if x6.length < 5864062014805 then (spec_CoverTrivial.l0 k x1 (x6 ++ [t148]) (wrap64 (x7 + 1)) x143000 x143001) else (none))) else ((spec_VoltageValid.f k x143000 x143001 x1 x6).bind fun t154 => (if t154 = true then (some (x6, true)) else (some ((([] : List (List Int))), false)))))) else ((spec_VoltageValid.f k x143000 x143001 x1 x6).bind fun t158 => (if t158 = true then (some (x6, true)) else (some ((([] : List (List Int))), false)))))) else ((spec_VoltageValid.f k x143000 x143001 x1 x6).bind fun t162 => (if t162 = true then (some (x6, true)) else (some ((([] : List (List Int))), false))))
def spec_CoverTrivial.f (k : Nat) (l0_0 : List Int) (l0_1 : List Int) (a1 : Int) : Option ((List (List Int)) × Bool) := spec_CoverTrivial.l0 k a1 (([] : List (List Int))) 0 l0_0 l0_1
set_option maxHeartbeats 8000000 in
set_option maxRecDepth 100000 in
theorem spec_CoverTrivial.calls (k : Nat) (A0_0 : Option Addr) (c0_0 : Nat) (l0_0 : List Int) (A0_1 : Option Addr) (c0_1 : Nat) (l0_1 : List Int) (a1 : Int) (r1 : List (List Int)) (r2 : Bool) (w : World) (hr0_0 : Kd.C (Kd.int .i64) w A0_0 l0_0.length l0_0) (hc0_0 : l0_0.length ≤ c0_0) (hr0_1 : Kd.C (Kd.int .i64) w A0_1 l0_1.length l0_1) (hc0_1 : l0_1.length ≤ c0_1) (h : spec_CoverTrivial.f k l0_0 l0_1 a1 = some (r1, r2)) :
    Calls Try.prog 23 #[.agg #[.slice A0_0 l0_0.length c0_0, .slice A0_1 l0_1.length c0_1], .int .i64 a1] w fun e w' => ∃ v0_ : Value, e = .returned (.tuple #[v0_, .bool r2]) ∧ Kd.S (Kd.slice 3 (Kd.int .i64)) 22 w' w.heap.size (fun _ => True) v0_ r1 ∧ Below w.heap.size w w' := by
 have hu29 := Try.underlying29; have HR0_0 := A0_ hr0_0; have HC0_0 := A0_ hc0_0; clear hr0_0 hc0_0; have HR0_1 := A0_ hr0_1; have HC0_1 := A0_ hc0_1; clear hr0_1 hc0_1
 have HB := A0_ (Below.refl w.heap.size w)
 have H : (spec_CoverTrivial.l0 k a1 (([] : List (List Int))) 0 l0_0 l0_1) = some (r1, r2) := h
 clear h
 obtain ⟨y143, hy143⟩ : ∃ y_ : List (List Int), y_ = (([] : List (List Int))) := ⟨_, rfl⟩
 replace H : (spec_CoverTrivial.l0 k a1 y143 0 l0_0 l0_1) = some (r1, r2) := zH hy143 H
 have Ny143 := A0_ hy143; clear hy143; have H' := A0_ H; clear H
 go_enter Try.func23, Try.ntmps23
 go_wp2_with (first | ((with_reducible refine gD (N := 2) rfl ?_); refine zX (N := 2) (cs := #[.slice A0_0 l0_0.length c0_0, .slice A0_1 l0_1.length c0_1]) (t := 29) ?_; intro gb142 hg w3 hbox hb; have BK142 := A0_ (hbox); have GW142 := zG hg HB; have GE142 := zG hg HB; replace HB := zB HB hb; clear hb hbox hg) | ((with_reducible refine gD (N := 8) rfl ?_); refine Kd.S_lit (Kd.slice 3 (Kd.int .i64)) _ 22 ?hg (N := 8) ?hd (xs := ([] : List (List Int))) (inner := []) (ok := fun _ => True) (okp := fun _ => True) ?hr ?hp (fun _ hk => hk) trivial (Below.refl _ _) (Nat.le_refl _) (by simp) ?_; (case hd => rfl); (case hg => rfl); (case hr => first | (go_simp; done) | (go_simp; rfl)); (case hp => exact (Reps.none _ _)); intro v144 w4 ho5 hb hg_ hnew_; clear hg_ hnew_; (first | rw [← Ny143.out] at ho5 | (simp only [Int.reduceToNat] at ho5; rw [← Ny143.out] at ho5)); have HO145 := A0_ (Kd.S_lower ho5 (bZ (zB_ HB))); replace BK142 := zK BK142 hb; replace HB := zB HB hb; clear hb ho5))
 go_loopg [6, 7] k (fun kq v6 v7 w' => ∃ (x6_1 : List (List Int)) (x7_1 : Int), v7 = .int .i64 x7_1 ∧ Aside0 (spec_CoverTrivial.l0 kq a1 x6_1 x7_1 l0_0 l0_1 = some (r1, r2)) ∧ Aside0 (kq ≤ k) ∧ Aside0 (Kd.S (Kd.slice 3 (Kd.int .i64)) 22 w' w.heap.size (fun _ => True) v6 x6_1) ∧ Aside0 (w'.heap[gb142]? = some (.cells #[(.slice A0_0 l0_0.length c0_0), (.slice A0_1 l0_1.length c0_1)] 29 (0, 0))) ∧ Aside0 (Below w.heap.size w w'))
 case atStart => exact ⟨(y143), (0), zt, H', ⟨Nat.le_refl _⟩, ⟨zS_ HO145⟩, ⟨zK_ BK142⟩, ⟨zB_ HB⟩⟩
 case round =>
  clear H'; (try clear c2); (try clear p2); obtain ⟨x6_1, x7_1, rfl, HA, HK1, HO_6, BK142, HB⟩ := hrel
  cases gk with
  | zero => exact absurd HA.out (by simp [spec_CoverTrivial.l0])
  | succ k1 =>
   have H := HA.out; clear HA; simp only [spec_CoverTrivial.l0] at H
   by_cases c6 : x7_1 < (wrap64 ((l0_1.length : Int) / 2))
   ·rw [if_pos c6] at H
    have c6b0 := dT c6; clear c6; obtain ⟨t146, A7, H⟩ := zbind H
    by_cases c8 : t146 = true
    ·subst c8
     have H1 : ((spec_l6In.f a1 1 6).bind fun t147 => (if t147 = true then ((spec_l1Same.f k1 a1).bind fun t148 => (if x6_1.length < 5864062014805 then (spec_CoverTrivial.l0 k1 a1 (x6_1 ++ [t148]) (wrap64 (x7_1 + 1)) l0_0 l0_1) else (none))) else ((spec_VoltageValid.f k1 l0_0 l0_1 a1 x6_1).bind fun t154 => (if t154 = true then (some (x6_1, true)) else (some ((([] : List (List Int))), false)))))) = some (r1, r2) := by rw [if_pos rfl] at H; exact H
     clear H; have H := H1; clear H1; obtain ⟨t147, A9, H⟩ := zbind H
     by_cases c10 : t147 = true
     ·subst c10
      have H1 : ((spec_l1Same.f k1 a1).bind fun t148 => (if x6_1.length < 5864062014805 then (spec_CoverTrivial.l0 k1 a1 (x6_1 ++ [t148]) (wrap64 (x7_1 + 1)) l0_0 l0_1) else (none))) = some (r1, r2) := by rw [if_pos rfl] at H; exact H
      clear H; have H := H1; clear H1; obtain ⟨t148, A11, H⟩ := zbind H
      by_cases c12 : x6_1.length < 5864062014805
      ·rw [if_pos c12] at H
       have LMc12 := A0_ c12; clear c12
       obtain ⟨y151, hy151⟩ : ∃ y_ : List (List Int), y_ = (x6_1 ++ [t148]) := ⟨_, rfl⟩
       replace H : (spec_CoverTrivial.l0 k1 a1 y151 (wrap64 (x7_1 + 1)) l0_0 l0_1) = some (r1, r2) := zH hy151 H
       have Ny151 := A0_ hy151; clear hy151; have H' := A0_ H; clear H; have hcz13_0 := zc0 BK142; have hcz13_1 := zc1 BK142; have hfz13_0 := kF BK142.out 0; have hfz13_1 := kF BK142.out 1
       go_wp2_with (first | (go_at_call 56; (with_reducible refine (spec_MapValid.calls k1 _ _ l0_0 _ _ l0_1 true _ ?side1 ?side2 ?side3 ?side4 A7.out).mono ?_); (case side1 => exact zC HR0_0 HB); (case side2 => exact HC0_0.out); (case side3 => exact zC HR0_1 HB); (case side4 => exact HC0_1.out); rintro e w14 ⟨rfl, hb⟩; replace HO_6 := zS HO_6 hb; replace BK142 := zK BK142 hb; replace HB := zB HB hb; (try clear hb)) | (go_at_call 57; (with_reducible refine (spec_l6In.calls a1 1 6 true _ A9.out).mono ?_); rintro e w' ⟨rfl, ⟨nd, rfl⟩⟩) | ((with_reducible refine gC (f := 61) rfl ?_); refine zJ (some 27) Try.func61 #[.int .i64 a1] ?_; (with_reducible refine (spec_l1Same.calls k1 a1 t148 _ A11.out).mono ?_); rintro e w15 ⟨v149, rfl, ho0, hb⟩; refine ⟨_, rfl, ?_⟩; replace HO_6 := A0_ (Kd.S_elder' (zS_ HO_6) (Kd.R_base ho0) hb); have HO150 := A0_ (rL ho0 (bZ (zB_ HB))); replace BK142 := zK BK142 hb; replace HB := zB HB hb; (try clear hb); (try clear ho0); obtain ⟨Ao17, co17, eo17⟩ := rS HO150.out; subst eo17) | ((with_reducible refine gB (b := .append) (xs := #[.tmp 25, .tmp 28]) rfl ?_); at_builtin; refine Kd.S_append (Kd.slice 3 (Kd.int .i64)) (w0 := w) w.heap.size rfl (.tmp 25) (.tmp 28) 25 22 (.slice none 0 0) 24 rfl Try.underlying25 info22 rfl (by decide) (by omega) u6 x6_1 t148 [.slice Ao17 t148.length co17] (fun _ => True) (fun k_ => some k_ = (.slice Ao17 t148.length co17 : Value).ownBlock) rfl rfl ?aP (fun k_ hk_ => ((rM (ok' := fun k_ => ((fun _ => True)) k_ ∧ some k_ ≠ (u6 : Value).ownBlock) (Kd.R_apart' (HO150.out) (Kd.S_typed HO_6.out) (by decide)) (fun k_ hk => ⟨trivial, hk.2⟩))).1 k_ hk_.symm) ?aF ?aO ?aB ?aS ?aL ?_; (case aP => exact Kd.M_row (rM (Kd.R_tight rfl (rM (ok' := fun k_ => ((fun _ => True)) k_ ∧ some k_ ≠ (u6 : Value).ownBlock) (Kd.R_apart' (HO150.out) (Kd.S_typed HO_6.out) (by decide)) (fun k_ hk => ⟨trivial, hk.2⟩))) (fun _ h_ => h_))); (case aB => exact (zB_ HB)); (case aF => exact (fun _ _ => trivial)); (case aO => exact (zmS HO_6 (fun k_ hk => ⟨trivial, fun e_ => hk.2 e_⟩))); (case aS => exact (bZ (zB_ HB))); (case aL => have := LMc12.out; omega); intro v152 w16 ho hb hg hat; rw [← Ny151.out] at ho; replace BK142 := A0_ (blk_grown (g := gb142) (o := .cells #[.slice A0_0 l0_0.length c0_0, .slice A0_1 l0_1.length c0_1] 29 (0, 0)) (zK_ BK142) hg (Kd.S_ne HO_6.out BK142.out (by decide))); replace HB := A0_ (hb); have HO153 := A0_ (ho); clear HO_6 HO150 ho hb hg hat))
       go_roundg k1
       case measure => have := HK1.out; omega
       case rel => exact ⟨(y151), (wrap64 (x7_1 + 1)), zt, H', ⟨by have := HK1.out; omega⟩, ⟨zS_ HO153⟩, ⟨zK_ BK142⟩, ⟨zB_ HB⟩⟩
      rw [if_neg c12] at H
      exact absurd H (by simp)
     replace c10 := Bool.eq_false_iff.mpr c10; subst c10
     have H1 : ((spec_VoltageValid.f k1 l0_0 l0_1 a1 x6_1).bind fun t154 => (if t154 = true then (some (x6_1, true)) else (some ((([] : List (List Int))), false)))) = some (r1, r2) := by rw [if_neg (show ¬ (false = true) by decide)] at H; exact H
     clear H; have H := H1; clear H1; obtain ⟨t154, A18, H⟩ := zbind H
     by_cases c19 : t154 = true
     ·subst c19
      have H1 : (some (x6_1, true)) = some (r1, r2) := by rw [if_pos rfl] at H; exact H
      clear H; have H := H1; clear H1; simp only [Option.some.injEq, Prod.mk.injEq] at H; obtain ⟨rfl, rfl⟩ := H; have hcz20_0 := zc0 BK142; have hcz20_1 := zc1 BK142; have hfz20_0 := kF BK142.out 0; have hfz20_1 := kF BK142.out 1
      go_wp2_with (first | (go_at_call 56; (with_reducible refine (spec_MapValid.calls k1 _ _ l0_0 _ _ l0_1 true _ ?side1 ?side2 ?side3 ?side4 A7.out).mono ?_); (case side1 => exact zC HR0_0 HB); (case side2 => exact HC0_0.out); (case side3 => exact zC HR0_1 HB); (case side4 => exact HC0_1.out); rintro e w21 ⟨rfl, hb⟩; replace HO_6 := zS HO_6 hb; replace BK142 := zK BK142 hb; replace HB := zB HB hb; (try clear hb)) | (go_at_call 57; (with_reducible refine (spec_l6In.calls a1 1 6 false _ A9.out).mono ?_); rintro e w' ⟨rfl, ⟨nd, rfl⟩⟩; have hcz22_0 := zc0 BK142; have hcz22_1 := zc1 BK142; have hfz22_0 := kF BK142.out 0; have hfz22_1 := kF BK142.out 1; obtain ⟨Ao23, co23, eo23⟩ := Kd.S_slice HO_6.out; subst eo23) | ((with_reducible refine gC (f := 17) rfl ?_); refine zJ (some 33) Try.func17 #[.agg #[.slice A0_0 l0_0.length c0_0, .slice A0_1 l0_1.length c0_1], .int .i64 a1, .slice Ao23 x6_1.length co23] ?_; (with_reducible refine (spec_VoltageValid.calls k1 _ _ l0_0 _ _ l0_1 a1 _ _ x6_1 true _ ?side1 ?side2 ?side3 ?side4 ?side5 ?side6 A18.out).mono ?_); (case side1 => repeat (first | exact (cB HR0_0.out (zB_ HB)) | (with_reducible refine cA ?_ _) | (with_reducible refine cN ?_ _) | (with_reducible refine cD ?_))); (case side2 => exact HC0_0.out); (case side3 => repeat (first | exact (cB HR0_1.out (zB_ HB)) | (with_reducible refine cA ?_ _) | (with_reducible refine cN ?_ _) | (with_reducible refine cD ?_))); (case side4 => exact HC0_1.out); (case side5 => exact zDS HO_6); (case side6 => exact (Kd.S_reads' HO_6.out).2.1); rintro e w24 ⟨rfl, hb⟩; refine ⟨_, rfl, ?_⟩; replace HO_6 := zS HO_6 hb; replace BK142 := zK BK142 hb; replace HB := zB HB hb; (try clear hb)))
      go_ret2
      exact ⟨_, by first | rfl | (simp [*] <;> rfl), zS_ HO_6, zB_ HB⟩
     replace c19 := Bool.eq_false_iff.mpr c19; subst c19
     have H1 : (some ((([] : List (List Int))), false)) = some (r1, r2) := by rw [if_neg (show ¬ (false = true) by decide)] at H; exact H
     clear H; have H := H1; clear H1
     obtain ⟨y155, hy155⟩ : ∃ y_ : List (List Int), y_ = (([] : List (List Int))) := ⟨_, rfl⟩
     replace H : (some (y155, false)) = some (r1, r2) := zH hy155 H
     have Ny155 := A0_ hy155; clear hy155; simp only [Option.some.injEq, Prod.mk.injEq] at H; obtain ⟨rfl, rfl⟩ := H; have hcz25_0 := zc0 BK142; have hcz25_1 := zc1 BK142; have hfz25_0 := kF BK142.out 0; have hfz25_1 := kF BK142.out 1
     go_wp2_with (first | (go_at_call 56; (with_reducible refine (spec_MapValid.calls k1 _ _ l0_0 _ _ l0_1 true _ ?side1 ?side2 ?side3 ?side4 A7.out).mono ?_); (case side1 => exact zC HR0_0 HB); (case side2 => exact HC0_0.out); (case side3 => exact zC HR0_1 HB); (case side4 => exact HC0_1.out); rintro e w26 ⟨rfl, hb⟩; replace HO_6 := zS HO_6 hb; replace BK142 := zK BK142 hb; replace HB := zB HB hb; (try clear hb)) | (go_at_call 57; (with_reducible refine (spec_l6In.calls a1 1 6 false _ A9.out).mono ?_); rintro e w' ⟨rfl, ⟨nd, rfl⟩⟩; have hcz27_0 := zc0 BK142; have hcz27_1 := zc1 BK142; have hfz27_0 := kF BK142.out 0; have hfz27_1 := kF BK142.out 1; obtain ⟨Ao28, co28, eo28⟩ := Kd.S_slice HO_6.out; subst eo28) | ((with_reducible refine gC (f := 17) rfl ?_); refine zJ (some 33) Try.func17 #[.agg #[.slice A0_0 l0_0.length c0_0, .slice A0_1 l0_1.length c0_1], .int .i64 a1, .slice Ao28 x6_1.length co28] ?_; (with_reducible refine (spec_VoltageValid.calls k1 _ _ l0_0 _ _ l0_1 a1 _ _ x6_1 false _ ?side1 ?side2 ?side3 ?side4 ?side5 ?side6 A18.out).mono ?_); (case side1 => repeat (first | exact (cB HR0_0.out (zB_ HB)) | (with_reducible refine cA ?_ _) | (with_reducible refine cN ?_ _) | (with_reducible refine cD ?_))); (case side2 => exact HC0_0.out); (case side3 => repeat (first | exact (cB HR0_1.out (zB_ HB)) | (with_reducible refine cA ?_ _) | (with_reducible refine cN ?_ _) | (with_reducible refine cD ?_))); (case side4 => exact HC0_1.out); (case side5 => exact zDS HO_6); (case side6 => exact (Kd.S_reads' HO_6.out).2.1); rintro e w29 ⟨rfl, hb⟩; refine ⟨_, rfl, ?_⟩; replace HO_6 := zS HO_6 hb; replace BK142 := zK BK142 hb; replace HB := zB HB hb; (try clear hb)) | ((with_reducible refine gD (N := 35) rfl ?_); refine Kd.S_lit (Kd.slice 3 (Kd.int .i64)) _ 22 ?hg (N := 35) ?hd (xs := ([] : List (List Int))) (inner := []) (ok := fun _ => True) (okp := fun _ => True) ?hr ?hp (fun _ hk => hk) trivial (Below.refl _ _) (Nat.le_refl _) (by simp) ?_; (case hd => rfl); (case hg => rfl); (case hr => first | (go_simp; done) | (go_simp; rfl)); (case hp => exact (Reps.none _ _)); intro v156 w30 ho31 hb hg_ hnew_; clear hg_ hnew_; (first | rw [← Ny155.out] at ho31 | (simp only [Int.reduceToNat] at ho31; rw [← Ny155.out] at ho31)); have HO157 := A0_ (Kd.S_lower (Kd.S_new' ho31 (Kd.S_lt (zS_ HO_6))) (bZ (zB_ HB))); replace HO_6 := A0_ (Kd.S_elder' (zS_ HO_6) (Kd.S_base ho31) hb); replace BK142 := zK BK142 hb; replace HB := zB HB hb; clear hb ho31))
     go_ret2
     exact ⟨_, by first | rfl | (simp [*] <;> rfl), zmS HO157 (fun _ hk => trivial), zB_ HB⟩
    replace c8 := Bool.eq_false_iff.mpr c8; subst c8
    have H1 : ((spec_VoltageValid.f k1 l0_0 l0_1 a1 x6_1).bind fun t158 => (if t158 = true then (some (x6_1, true)) else (some ((([] : List (List Int))), false)))) = some (r1, r2) := by rw [if_neg (show ¬ (false = true) by decide)] at H; exact H
    clear H; have H := H1; clear H1; obtain ⟨t158, A32, H⟩ := zbind H
    by_cases c33 : t158 = true
    ·subst c33
     have H1 : (some (x6_1, true)) = some (r1, r2) := by rw [if_pos rfl] at H; exact H
     clear H; have H := H1; clear H1; simp only [Option.some.injEq, Prod.mk.injEq] at H; obtain ⟨rfl, rfl⟩ := H; have hcz34_0 := zc0 BK142; have hcz34_1 := zc1 BK142; have hfz34_0 := kF BK142.out 0; have hfz34_1 := kF BK142.out 1
     go_wp2_with (first | (go_at_call 56; (with_reducible refine (spec_MapValid.calls k1 _ _ l0_0 _ _ l0_1 false _ ?side1 ?side2 ?side3 ?side4 A7.out).mono ?_); (case side1 => exact zC HR0_0 HB); (case side2 => exact HC0_0.out); (case side3 => exact zC HR0_1 HB); (case side4 => exact HC0_1.out); rintro e w35 ⟨rfl, hb⟩; replace HO_6 := zS HO_6 hb; replace BK142 := zK BK142 hb; replace HB := zB HB hb; (try clear hb); have hcz36_0 := zc0 BK142; have hcz36_1 := zc1 BK142; have hfz36_0 := kF BK142.out 0; have hfz36_1 := kF BK142.out 1; obtain ⟨Ao37, co37, eo37⟩ := Kd.S_slice HO_6.out; subst eo37) | ((with_reducible refine gC (f := 17) rfl ?_); refine zJ (some 33) Try.func17 #[.agg #[.slice A0_0 l0_0.length c0_0, .slice A0_1 l0_1.length c0_1], .int .i64 a1, .slice Ao37 x6_1.length co37] ?_; (with_reducible refine (spec_VoltageValid.calls k1 _ _ l0_0 _ _ l0_1 a1 _ _ x6_1 true _ ?side1 ?side2 ?side3 ?side4 ?side5 ?side6 A32.out).mono ?_); (case side1 => exact zC HR0_0 HB); (case side2 => exact HC0_0.out); (case side3 => exact zC HR0_1 HB); (case side4 => exact HC0_1.out); (case side5 => exact zDS HO_6); (case side6 => exact (Kd.S_reads' HO_6.out).2.1); rintro e w38 ⟨rfl, hb⟩; refine ⟨_, rfl, ?_⟩; replace HO_6 := zS HO_6 hb; replace BK142 := zK BK142 hb; replace HB := zB HB hb; (try clear hb)))
     go_ret2
     exact ⟨_, by first | rfl | (simp [*] <;> rfl), zS_ HO_6, zB_ HB⟩
    replace c33 := Bool.eq_false_iff.mpr c33; subst c33
    have H1 : (some ((([] : List (List Int))), false)) = some (r1, r2) := by rw [if_neg (show ¬ (false = true) by decide)] at H; exact H
    clear H; have H := H1; clear H1
    obtain ⟨y159, hy159⟩ : ∃ y_ : List (List Int), y_ = (([] : List (List Int))) := ⟨_, rfl⟩
    replace H : (some (y159, false)) = some (r1, r2) := zH hy159 H
    have Ny159 := A0_ hy159; clear hy159; simp only [Option.some.injEq, Prod.mk.injEq] at H; obtain ⟨rfl, rfl⟩ := H; have hcz39_0 := zc0 BK142; have hcz39_1 := zc1 BK142; have hfz39_0 := kF BK142.out 0; have hfz39_1 := kF BK142.out 1
    go_wp2_with (first | (go_at_call 56; (with_reducible refine (spec_MapValid.calls k1 _ _ l0_0 _ _ l0_1 false _ ?side1 ?side2 ?side3 ?side4 A7.out).mono ?_); (case side1 => exact zC HR0_0 HB); (case side2 => exact HC0_0.out); (case side3 => exact zC HR0_1 HB); (case side4 => exact HC0_1.out); rintro e w40 ⟨rfl, hb⟩; replace HO_6 := zS HO_6 hb; replace BK142 := zK BK142 hb; replace HB := zB HB hb; (try clear hb); have hcz41_0 := zc0 BK142; have hcz41_1 := zc1 BK142; have hfz41_0 := kF BK142.out 0; have hfz41_1 := kF BK142.out 1; obtain ⟨Ao42, co42, eo42⟩ := Kd.S_slice HO_6.out; subst eo42) | ((with_reducible refine gC (f := 17) rfl ?_); refine zJ (some 33) Try.func17 #[.agg #[.slice A0_0 l0_0.length c0_0, .slice A0_1 l0_1.length c0_1], .int .i64 a1, .slice Ao42 x6_1.length co42] ?_; (with_reducible refine (spec_VoltageValid.calls k1 _ _ l0_0 _ _ l0_1 a1 _ _ x6_1 false _ ?side1 ?side2 ?side3 ?side4 ?side5 ?side6 A32.out).mono ?_); (case side1 => exact zC HR0_0 HB); (case side2 => exact HC0_0.out); (case side3 => exact zC HR0_1 HB); (case side4 => exact HC0_1.out); (case side5 => exact zDS HO_6); (case side6 => exact (Kd.S_reads' HO_6.out).2.1); rintro e w43 ⟨rfl, hb⟩; refine ⟨_, rfl, ?_⟩; replace HO_6 := zS HO_6 hb; replace BK142 := zK BK142 hb; replace HB := zB HB hb; (try clear hb)) | ((with_reducible refine gD (N := 35) rfl ?_); refine Kd.S_lit (Kd.slice 3 (Kd.int .i64)) _ 22 ?hg (N := 35) ?hd (xs := ([] : List (List Int))) (inner := []) (ok := fun _ => True) (okp := fun _ => True) ?hr ?hp (fun _ hk => hk) trivial (Below.refl _ _) (Nat.le_refl _) (by simp) ?_; (case hd => rfl); (case hg => rfl); (case hr => first | (go_simp; done) | (go_simp; rfl)); (case hp => exact (Reps.none _ _)); intro v160 w44 ho45 hb hg_ hnew_; clear hg_ hnew_; (first | rw [← Ny159.out] at ho45 | (simp only [Int.reduceToNat] at ho45; rw [← Ny159.out] at ho45)); have HO161 := A0_ (Kd.S_lower (Kd.S_new' ho45 (Kd.S_lt (zS_ HO_6))) (bZ (zB_ HB))); replace HO_6 := A0_ (Kd.S_elder' (zS_ HO_6) (Kd.S_base ho45) hb); replace BK142 := zK BK142 hb; replace HB := zB HB hb; clear hb ho45))
    go_ret2
    exact ⟨_, by first | rfl | (simp [*] <;> rfl), zmS HO161 (fun _ hk => trivial), zB_ HB⟩
   rw [if_neg c6] at H; have c6b0 := dF c6; clear c6; obtain ⟨t162, A46, H⟩ := zbind H
   by_cases c47 : t162 = true
   ·subst c47
    have H1 : (some (x6_1, true)) = some (r1, r2) := by rw [if_pos rfl] at H; exact H
    clear H; have H := H1; clear H1; simp only [Option.some.injEq, Prod.mk.injEq] at H; obtain ⟨rfl, rfl⟩ := H; have hcz48_0 := zc0 BK142; have hcz48_1 := zc1 BK142; have hfz48_0 := kF BK142.out 0; have hfz48_1 := kF BK142.out 1; obtain ⟨Ao49, co49, eo49⟩ := Kd.S_slice HO_6.out; subst eo49
    go_wp2_with (first | ((with_reducible refine gC (f := 17) rfl ?_); refine zJ (some 33) Try.func17 #[.agg #[.slice A0_0 l0_0.length c0_0, .slice A0_1 l0_1.length c0_1], .int .i64 a1, .slice Ao49 x6_1.length co49] ?_; (with_reducible refine (spec_VoltageValid.calls k1 _ _ l0_0 _ _ l0_1 a1 _ _ x6_1 true _ ?side1 ?side2 ?side3 ?side4 ?side5 ?side6 A46.out).mono ?_); (case side1 => exact zC HR0_0 HB); (case side2 => exact HC0_0.out); (case side3 => exact zC HR0_1 HB); (case side4 => exact HC0_1.out); (case side5 => exact zDS HO_6); (case side6 => exact (Kd.S_reads' HO_6.out).2.1); rintro e w50 ⟨rfl, hb⟩; refine ⟨_, rfl, ?_⟩; replace HO_6 := zS HO_6 hb; replace BK142 := zK BK142 hb; replace HB := zB HB hb; (try clear hb)))
    go_ret2
    exact ⟨_, by first | rfl | (simp [*] <;> rfl), zS_ HO_6, zB_ HB⟩
   replace c47 := Bool.eq_false_iff.mpr c47; subst c47
   have H1 : (some ((([] : List (List Int))), false)) = some (r1, r2) := by rw [if_neg (show ¬ (false = true) by decide)] at H; exact H
   clear H; have H := H1; clear H1
   obtain ⟨y163, hy163⟩ : ∃ y_ : List (List Int), y_ = (([] : List (List Int))) := ⟨_, rfl⟩
   replace H : (some (y163, false)) = some (r1, r2) := zH hy163 H
   have Ny163 := A0_ hy163; clear hy163; simp only [Option.some.injEq, Prod.mk.injEq] at H; obtain ⟨rfl, rfl⟩ := H; have hcz51_0 := zc0 BK142; have hcz51_1 := zc1 BK142; have hfz51_0 := kF BK142.out 0; have hfz51_1 := kF BK142.out 1; obtain ⟨Ao52, co52, eo52⟩ := Kd.S_slice HO_6.out; subst eo52
   go_wp2_with (first | ((with_reducible refine gC (f := 17) rfl ?_); refine zJ (some 33) Try.func17 #[.agg #[.slice A0_0 l0_0.length c0_0, .slice A0_1 l0_1.length c0_1], .int .i64 a1, .slice Ao52 x6_1.length co52] ?_; (with_reducible refine (spec_VoltageValid.calls k1 _ _ l0_0 _ _ l0_1 a1 _ _ x6_1 false _ ?side1 ?side2 ?side3 ?side4 ?side5 ?side6 A46.out).mono ?_); (case side1 => exact zC HR0_0 HB); (case side2 => exact HC0_0.out); (case side3 => exact zC HR0_1 HB); (case side4 => exact HC0_1.out); (case side5 => exact zDS HO_6); (case side6 => exact (Kd.S_reads' HO_6.out).2.1); rintro e w53 ⟨rfl, hb⟩; refine ⟨_, rfl, ?_⟩; replace HO_6 := zS HO_6 hb; replace BK142 := zK BK142 hb; replace HB := zB HB hb; (try clear hb)) | ((with_reducible refine gD (N := 35) rfl ?_); refine Kd.S_lit (Kd.slice 3 (Kd.int .i64)) _ 22 ?hg (N := 35) ?hd (xs := ([] : List (List Int))) (inner := []) (ok := fun _ => True) (okp := fun _ => True) ?hr ?hp (fun _ hk => hk) trivial (Below.refl _ _) (Nat.le_refl _) (by simp) ?_; (case hd => rfl); (case hg => rfl); (case hr => first | (go_simp; done) | (go_simp; rfl)); (case hp => exact (Reps.none _ _)); intro v164 w54 ho55 hb hg_ hnew_; clear hg_ hnew_; (first | rw [← Ny163.out] at ho55 | (simp only [Int.reduceToNat] at ho55; rw [← Ny163.out] at ho55)); have HO165 := A0_ (Kd.S_lower (Kd.S_new' ho55 (Kd.S_lt (zS_ HO_6))) (bZ (zB_ HB))); replace HO_6 := A0_ (Kd.S_elder' (zS_ HO_6) (Kd.S_base ho55) hb); replace BK142 := zK BK142 hb; replace HB := zB HB hb; clear hb ho55))
   go_ret2
   exact ⟨_, by first | rfl | (simp [*] <;> rfl), zmS HO165 (fun _ hk => trivial), zB_ HB⟩

/-! ### impl_PermValid: function 60 -/
def impl_PermValid.fine (l : List Int) (i : Nat) : Prop := ∀ j : Nat, j < i → (0 ≤ rd l (j : Int) ∧ rd l (j : Int) < l.length) ∧ ∀ k : Nat, k < j → rd l (k : Int) ≠ rd l (j : Int)
instance (l : List Int) (i : Nat) : Decidable (impl_PermValid.fine l i) := by unfold impl_PermValid.fine; infer_instance
def impl_PermValid.met (l : List Int) (i : Nat) (x : Nat) : Bool := (List.range i).any (fun j => decide (rd l (j : Int) = (x : Int)))
def impl_PermValid.cells (l : List Int) (i : Nat) : Array Value := ((List.range 12).map (fun x => Value.bool (impl_PermValid.met l i x))).toArray
def impl_PermValid.val (l : List Int) : Bool := decide ((1 ≤ l.length ∧ l.length ≤ 12) ∧ impl_PermValid.fine l l.length)
def impl_PermValid.f (l0 : List Int) : Option Bool := some (impl_PermValid.val l0)
theorem impl_PermValid.met_succ (l : List Int) (i x : Nat) : impl_PermValid.met l (i + 1) x = (impl_PermValid.met l i x || decide (rd l (i : Int) = (x : Int))) := by
  unfold impl_PermValid.met; rw [List.range_succ, List.any_append]; simp
theorem impl_PermValid.met_iff {l : List Int} {i x : Nat} : impl_PermValid.met l i x = true ↔ ∃ k : Nat, k < i ∧ rd l (k : Int) = (x : Int) := by
  unfold impl_PermValid.met
  rw [List.any_eq_true]
  constructor
  · rintro ⟨k, hk, h⟩; exact ⟨k, List.mem_range.1 hk, oD h⟩
  rintro ⟨k, hk, h⟩; exact ⟨k, List.mem_range.2 hk, dT h⟩
theorem impl_PermValid.cells_get (l : List Int) (i : Nat) (x : Nat) (h : x < 12) : (impl_PermValid.cells l i)[x]? = some (.bool (impl_PermValid.met l i x)) := by
  unfold impl_PermValid.cells; simp [h]
theorem impl_PermValid.cells_set (l : List Int) (i : Nat) (n : Int) (h0 : 0 ≤ n) (h : n < 12) (hn : rd l (i : Int) = n) : (impl_PermValid.cells l i).setIfInBounds n.toNat (.bool true) = impl_PermValid.cells l (i + 1) := by
  apply Array.ext_getElem?
  intro q
  by_cases hq : q < 12
  · rw [impl_PermValid.cells_get l (i + 1) q hq, impl_PermValid.met_succ, hn, Array.getElem?_setIfInBounds]
    by_cases e : n.toNat = q
    · rw [if_pos e, if_pos (by simp [impl_PermValid.cells]; omega), dT (by omega), Bool.or_true]
    rw [if_neg e, impl_PermValid.cells_get l i q hq, dF (by omega), Bool.or_false]
  have h1 : ∀ i, (impl_PermValid.cells l i).size = 12 := fun i => by simp [impl_PermValid.cells]
  rw [Array.getElem?_eq_none (by rw [Array.size_setIfInBounds, h1]; omega), Array.getElem?_eq_none (by rw [h1]; omega)]
theorem impl_PermValid.val_bad (l : List Int) (i : Int) (h0 : 0 ≤ i) (h1 : i < l.length) (h : ¬ (0 ≤ rd l i ∧ rd l i < l.length ∧ ∀ k : Nat, (k : Int) < i → rd l (k : Int) ≠ rd l i)) : impl_PermValid.val l = false := by
  unfold impl_PermValid.val
  refine dF (fun ⟨_, hf⟩ => h ?_)
  have := hf i.toNat (by omega)
  rw [Int.toNat_of_nonneg h0] at this
  exact ⟨this.1.1, this.1.2, fun k hk => this.2 k (by omega)⟩
set_option maxHeartbeats 8000000 in
set_option maxRecDepth 100000 in
theorem impl_PermValid.wv_long (A0 : Option Addr) (c0 : Nat) (l0 : List Int) (w : World) (hr0 : Kd.C (Kd.int .i64) w A0 l0.length l0) (hc0 : l0.length ≤ c0) (hl1 : 1 ≤ l0.length) (hl2 : l0.length ≤ 12) :
    Calls Try.prog 60 #[.slice A0 l0.length c0] w fun e w' => e = .returned (.bool (impl_PermValid.val l0)) ∧ Below w.heap.size w w' := by
    have HR0 := A0_ hr0; have HC0 := A0_ hc0; clear hr0 hc0
    have b0 : decide ((l0.length : Int) < 1) = false := dF (by omega)
    have b1 : decide (12 < (l0.length : Int)) = false := dF (by omega)
    have HL := A0_ (And.intro hl1 hl2)
    clear hl1 hl2
    have HN : Aside0 (∀ i, (impl_PermValid.cells l0 i).size = 12) := ⟨fun i => by simp [impl_PermValid.cells]⟩
    have HZ : Aside0 (impl_PermValid.cells l0 0 = #[.bool false, .bool false, .bool false, .bool false, .bool false, .bool false, .bool false, .bool false, .bool false, .bool false, .bool false, .bool false]) := ⟨rfl⟩
    go_enter Try.func60, Try.ntmps60
    go_wp2
    go_loopw [17] (fun v17 wr => ∃ (i : Int), v17 = .int .i64 i ∧ Aside0 (0 ≤ i ∧ i ≤ (l0.length : Int)) ∧ Aside0 (impl_PermValid.fine l0 i.toNat) ∧ (∃ m, wr = (w.alloc (.cells (impl_PermValid.cells l0 i.toNat) 82)).drewN m)) (fun i _ => l0.length - (intOf i).toNat)
    case atStart => exact ⟨0, rfl, ⟨by omega⟩, ⟨fun j hj => absurd hj (Nat.not_lt_zero j)⟩, 0, by rw [show (0 : Int).toNat = 0 from rfl, HZ.out]; rfl⟩
    case round =>
      obtain ⟨i, rfl, HI, HF, m, rfl⟩ := hrel; clear b0 b1
      have HB : Aside0 (Below w.heap.size w ((w.alloc (.cells (impl_PermValid.cells l0 i.toNat) 82)).drewN m)) := ⟨by exact bN ((Below.refl _ _).alloc (Nat.le_refl _) _) _⟩
      by_cases hlt : i < (l0.length : Int)
      · have hc : decide (i < (l0.length : Int)) = true := dT hlt
        obtain ⟨ad', e1, hx⟩ := tI HR0.out i HI.out.1 hlt
        cases e1
        replace hx := (HB.out.cell (wL w _ hx)).trans hx
        have p1 := eq_true HI.out.1; have p2 := eq_true hlt; have HT := A0_ hlt; clear hlt
        obtain ⟨n, hn⟩ : ∃ n, n = rd l0 i := ⟨_, rfl⟩
        rw [← hn] at hx
        have HNN := A0_ hn; clear hn
        by_cases c1 : n < 0
        · have d1 : decide (n < 0) = true := dT c1
          clear c1
          have HV : Aside0 (impl_PermValid.val l0 = false) := ⟨impl_PermValid.val_bad l0 i HI.out.1 HT.out (fun h => by have := HNN.out; have := oD d1; have := h.1; omega)⟩
          go_wp2
          go_ret
          exact ⟨by rw [HV.out]; rfl, HB.out⟩
        have d1 : decide (n < 0) = false := dF c1
        by_cases c2 : n ≥ (l0.length : Int)
        · have d2 : decide ((l0.length : Int) ≤ n) = true := dT c2
          clear c1 c2
          have HV : Aside0 (impl_PermValid.val l0 = false) := ⟨impl_PermValid.val_bad l0 i HI.out.1 HT.out (fun h => by have := HNN.out; have := oD d2; have := h.2.1; omega)⟩
          go_wp2
          go_ret
          exact ⟨by rw [HV.out]; rfl, HB.out⟩
        have d2 : decide ((l0.length : Int) ≤ n) = false := dF c2
        have q1 := eq_true (show 0 ≤ n by omega)
        have q2 := eq_true (show n < 12 by have := HL.out; omega)
        have HQ := A0_ (show 0 ≤ n ∧ n < 12 by have := HL.out; omega)
        clear c1 c2
        obtain ⟨b, hb⟩ : ∃ b, b = impl_PermValid.met l0 i.toNat n.toNat := ⟨_, rfl⟩
        have HBB := A0_ hb; clear hb
        have hy : ((w.alloc (.cells (impl_PermValid.cells l0 i.toNat) 82)).drewN m).cell? ⟨w.heap.size, n.toNat, none⟩ = some (.bool b) := by
          rw [HBB.out]
          have hc_ := impl_PermValid.cells_get l0 i.toNat n.toNat (by have := HQ.out; omega)
          show World.cell? (w.alloc (.cells (impl_PermValid.cells l0 i.toNat) 82)) ⟨w.heap.size, n.toNat, none⟩ = _
          simp only [World.cell?, World.alloc, Array.getElem?_push_size, Option.isSome_none]
          exact hc_
        cases b with
        | true =>
          have HV : Aside0 (impl_PermValid.val l0 = false) := ⟨impl_PermValid.val_bad l0 i HI.out.1 HT.out (fun h => by
            obtain ⟨k, hk, e⟩ := impl_PermValid.met_iff.1 HBB.out.symm
            have := HQ.out
            have := HNN.out
            exact h.2.2 k (by omega) (by omega))⟩
          go_wp2
          go_ret
          exact ⟨by rw [HV.out]; rfl, HB.out⟩
        | false =>
          have HI2 := A0_ (show (i + 1).toNat = i.toNat + 1 by have := HI.out; omega)
          have HW := A0_ (show wrap64 (i + 1) = i + 1 by have := HI.out; have := HL.out; have := HT.out; unfold wrap64; omega)
          have HF2 : Aside0 (impl_PermValid.fine l0 (i.toNat + 1)) := ⟨fun j hj => by
            by_cases e : j = i.toNat
            · subst e
              rw [Int.toNat_of_nonneg HI.out.1, ← HNN.out]
              refine ⟨⟨HQ.out.1, by have := of_decide_eq_false d2; omega⟩, fun k hk e => ?_⟩
              have := HBB.out
              rw [impl_PermValid.met_iff.2 ⟨k, hk, by rw [e]; have := HQ.out; omega⟩] at this
              cases this
            exact HF.out j (by omega)⟩
          have HS := A0_ (impl_PermValid.cells_set l0 i.toNat n HQ.out.1 HQ.out.2 (by rw [Int.toNat_of_nonneg HI.out.1, HNN.out]))
          go_wp2
          go_roundw
          case rel => exact ⟨i + 1, by rw [HW.out], ⟨by have := HI.out; have := HT.out; omega⟩, ⟨by rw [HI2.out]; exact HF2.out⟩, m, by
            rw [HI2.out, ← HS.out]
            show ((w.alloc (.cells (impl_PermValid.cells l0 i.toNat) 82)).setCell ⟨w.heap.size, n.toNat, none⟩ (.bool true)).drewN m = _
            rw [World.setCell_alloc_at _ _ _ _ _ rfl]⟩
          case measure => simp only [intOf, HW.out]; have := HI.out; have := HT.out; omega
      have hc : decide (i < (l0.length : Int)) = false := dF hlt
      have HV : Aside0 (impl_PermValid.val l0 = true) := ⟨by
        have e : i.toNat = l0.length := by have := HI.out; omega
        have hF := HF.out; rw [e] at hF
        exact dT ⟨HL.out, hF⟩⟩
      clear hlt
      go_wp2
      go_ret
      exact ⟨by rw [HV.out]; rfl, HB.out⟩
theorem impl_PermValid.calls (A0 : Option Addr) (c0 : Nat) (l0 : List Int) (r : Bool) (w : World) (hr0 : Kd.C (Kd.int .i64) w A0 l0.length l0) (hc0 : l0.length ≤ c0) (h : impl_PermValid.f l0 = some r) :
    Calls Try.prog 60 #[.slice A0 l0.length c0] w fun e w' => e = .returned (.bool r) ∧ Below w.heap.size w w' := by
  obtain rfl := sI h; clear h
  by_cases h1 : 1 ≤ l0.length
  · by_cases h2 : l0.length ≤ 12
    · exact impl_PermValid.wv_long A0 c0 l0 w hr0 hc0 h1 h2
    have HV : Aside0 (impl_PermValid.val l0 = false) := ⟨dF (fun k => h2 k.1.2)⟩
    have b0 : decide ((l0.length : Int) < 1) = false := dF (by omega)
    have b1 : decide (12 < (l0.length : Int)) = true := dT (by omega)
    clear h1 h2 hr0 hc0
    go_enter Try.func60, Try.ntmps60
    go_wp2
    go_ret
    exact ⟨by rw [HV.out]; rfl, (Below.refl _ _).alloc (Nat.le_refl _) _⟩
  have HV : Aside0 (impl_PermValid.val l0 = false) := ⟨dF (fun k => h1 k.1.1)⟩
  have b0 : decide ((l0.length : Int) < 1) = true := dT (by omega)
  clear h1 hr0 hc0
  go_enter Try.func60, Try.ntmps60
  go_wp2
  go_ret
  exact ⟨by rw [HV.out]; rfl, (Below.refl _ _).alloc (Nat.le_refl _) _⟩


/-! ### slices_Max_int_int: function 98 -/
def slices_Max_int_int.go (l : List Int) (m : Int) : Nat → Int
  | 0 => m
  | i + 1 => if slices_Max_int_int.go l m i < rd l (i : Int) then rd l (i : Int) else slices_Max_int_int.go l m i
/-- The greatest of the first i numbers; the first one for i = 0. -/
def slices_Max_int_int.up (l : List Int) (i : Nat) : Int := slices_Max_int_int.go l (rd l 0) i
def slices_Max_int_int.f (l0 : List Int) : Option Int := if 0 < l0.length then some (slices_Max_int_int.up l0 l0.length) else none
set_option maxHeartbeats 8000000 in
set_option maxRecDepth 100000 in
theorem slices_Max_int_int.calls (A0 : Option Addr) (c0 : Nat) (l0 : List Int) (r : Int) (w : World) (hr0 : Kd.C (Kd.int .i64) w A0 l0.length l0) (hc0 : l0.length ≤ c0) (h : slices_Max_int_int.f l0 = some r) :
    Calls Try.prog 98 #[.slice A0 l0.length c0] w fun e w' => e = .returned (.int .i64 r) ∧ Drawn0 w w' := by
  unfold slices_Max_int_int.f at h
  by_cases hl : 0 < l0.length
  · rw [if_pos hl] at h
    obtain rfl := sI h; clear h; have HR0 := A0_ hr0; have HC0 := A0_ hc0; clear hr0 hc0
    have b0 : decide (l0.length < 1) = false := dF (by omega)
    have b1 : decide ((l0.length : Int) < 1) = false := dF (by omega)
    obtain ⟨ad, e0, hx0⟩ := tI HR0.out 0 (by omega) (by omega)
    cases e0
    have hx1 : w.cell? ad = some (.int .i64 (rd l0 0)) := by cases ad; exact hx0
    clear hx0
    have p0 : (0 : Int) < (l0.length : Int) := by omega
    have HM := A0_ (show slices_Max_int_int.up l0 1 = rd l0 0 by show (if rd l0 0 < rd l0 ((0 : Nat) : Int) then rd l0 ((0 : Nat) : Int) else rd l0 0) = rd l0 0; split <;> rfl)
    have HL := A0_ hl
    go_enter Try.func98, Try.ntmps98
    go_wp2
    go_loopw [3, 4] (fun v3 v4 wr => ∃ (i : Int), v3 = .int .i64 (slices_Max_int_int.up l0 i.toNat) ∧ v4 = .int .i64 i ∧ Aside0 (1 ≤ i ∧ i ≤ (l0.length : Int)) ∧ Drawn0 w wr) (fun _ i _ => l0.length - (intOf i).toNat)
    case atStart => exact ⟨1, by rw [show (1 : Int).toNat = 1 from rfl, HM.out], rfl, ⟨by have := HL.out; omega⟩, by repeat (first | exact Drawn0.refl _ | apply Drawn0.step)⟩
    case round =>
      obtain ⟨i, rfl, rfl, HI, ⟨m, rfl⟩⟩ := hrel; clear hx1 p0 b0 b1
      by_cases hlt : i < (l0.length : Int)
      · have hI := HI.out
        have hc : decide (i < (l0.length : Int)) = true := dT hlt
        obtain ⟨ad', e1, hx⟩ := tI HR0.out i (by omega) hlt
        cases e1
        have p : 0 ≤ i := by omega
        have HS := A0_ (show slices_Max_int_int.up l0 (i + 1).toNat = if slices_Max_int_int.up l0 i.toNat < rd l0 i then rd l0 i else slices_Max_int_int.up l0 i.toNat by
          rw [show (i + 1).toNat = i.toNat + 1 by omega]
          show (if slices_Max_int_int.up l0 i.toNat < rd l0 ((i.toNat : Nat) : Int) then rd l0 ((i.toNat : Nat) : Int) else slices_Max_int_int.up l0 i.toNat) = _
          rw [Int.toNat_of_nonneg p])
        have HT := A0_ hlt; clear hI; have p1 := eq_true p; have p2 := eq_true hlt; clear p hlt
        have HW := A0_ (show wrap64 (i + 1) = i + 1 by have := HI.out; have := HT.out; have := HR0.out.2.1; unfold wrap64; omega)
        go_wp2
        go_roundw
        case rel => exact ⟨i + 1, by rw [HS.out], by rw [HW.out], ⟨by have := HI.out; have := HT.out; omega⟩, by repeat (first | exact Drawn0.refl _ | apply Drawn0.step)⟩
        case measure => simp only [intOf, HW.out]; have := HI.out; have := HT.out; omega
      have hc : decide (i < (l0.length : Int)) = false := dF hlt
      have HE := A0_ (show i = (l0.length : Int) by have := HI.out; omega)
      clear hlt
      go_wp2
      go_ret
      exact ⟨by rw [HE.out]; rfl, by repeat (first | exact Drawn0.refl _ | apply Drawn0.step)⟩
  rw [if_neg hl] at h; cases h


/-! ### impl_still: function 62 -/
def impl_still.l0 : Nat → List Int → Int → Int → Option (List Int)
  | 0, _, _, _ => none
  | k + 1, x3, x8, x9 => if x9 < x8 then (if 0 ≤ x9 then (if x9 < (x3.length : Int) then (impl_still.l0 k (x3.set (x9 : Int).toNat x9) x8 (wrap64 (x9 + 1))) else (none)) else (none)) else (some x3)
def impl_still.f (k : Nat) (a0 : Int) : Option (List Int) := if 0 ≤ a0 then (if (a0 : Int).toNat ≤ 35184372088832 then ((some (List.replicate (a0 : Int).toNat 0 : List Int)).bind fun y166 => (impl_still.l0 k y166 (y166.length : Int) 0)) else (none)) else (none)
set_option maxHeartbeats 8000000 in
set_option maxRecDepth 100000 in
theorem impl_still.calls (k : Nat) (a0 : Int) (r : List Int) (w : World) (h : impl_still.f k a0 = some r) :
    Calls Try.prog 62 #[.int .i64 a0] w fun e w' => ∃ v0_ : Value, e = .returned (v0_) ∧ Kd.R (Kd.int .i64) 3 w' w.heap.size (fun _ => True) v0_ r ∧ Below w.heap.size w w' := by
 have HB := A0_ (Below.refl w.heap.size w)
 have H : (if 0 ≤ a0 then (if (a0 : Int).toNat ≤ 35184372088832 then ((some (List.replicate (a0 : Int).toNat 0 : List Int)).bind fun y166 => (impl_still.l0 k y166 (y166.length : Int) 0)) else (none)) else (none)) = some r := h
 clear h
 by_cases c2 : 0 ≤ a0
 ·rw [if_pos c2] at H
  have c2b0 := eq_true c2; have c2b1 := dT c2; clear c2
  by_cases c3 : (a0 : Int).toNat ≤ 35184372088832
  ·rw [if_pos c3] at H
   have c3b0 := eq_true c3; have c3b1 := dT c3; clear c3
   obtain ⟨y166, hy166⟩ : ∃ y_ : List Int, y_ = (List.replicate (a0 : Int).toNat 0) := ⟨_, rfl⟩
   replace H : (impl_still.l0 k y166 (y166.length : Int) 0) = some r := zH hy166 H
   have Ny166 := A0_ hy166; clear hy166; have H' := A0_ H; clear H
   go_enter Try.func62, Try.ntmps62
   go_wp2_with (first | ((with_reducible refine gD (N := 6) rfl ?_); refine Kd.R_make (Kd.int .i64) _ 3 rfl (N := 6) rfl 22 _ _ rfl a0 rfl rfl Try.underlying22 (.int .i64 0) 8 info3 rfl (by decide) (by omega) 0 (ok := fun _ => True) (okp := fun _ => True) rfl (fun _ hk => hk) trivial (zd) (Nat.le_trans (Nat.mul_le_mul_right _ (zd : a0.toNat ≤ 35184372088832)) (by omega)) (Below.refl _ _) (Nat.le_refl _) ?_; intro v167 w4 ho5 hb hg_ hnew_; clear hg_ hnew_; (first | rw [← Ny166.out] at ho5 | (simp only [Int.reduceToNat] at ho5; rw [← Ny166.out] at ho5)); have HO168 := A0_ (rL ho5 (bZ (zB_ HB))); replace HB := zB HB hb; clear hb ho5; obtain ⟨Ao6, co6, eo6⟩ := rS HO168.out; subst eo6))
   go_loopg [9] k (fun kq v9 w' => ∃ (x3_1 : List Int) (x9_1 : Int), v9 = .int .i64 x9_1 ∧ Aside0 (impl_still.l0 kq x3_1 (y166.length : Int) x9_1 = some r) ∧ Aside0 (kq ≤ k) ∧ Aside0 (Kd.R (Kd.int .i64) 3 w' w.heap.size (fun _ => True) (.slice Ao6 y166.length co6) x3_1) ∧ Aside0 (Below w.heap.size w w'))
   case atStart => exact ⟨(y166), (0), zt, H', ⟨Nat.le_refl _⟩, ⟨zR_ HO168⟩, ⟨zB_ HB⟩⟩
   case round =>
    clear H'; (try clear c2); (try clear c2b0); (try clear c2b1); (try clear p2); (try clear c3); (try clear c3b0); (try clear c3b1); (try clear c6); obtain ⟨x3_1, x9_1, rfl, HA, HK1, HO_3, HB⟩ := hrel; have hl3_1 := (rR HO_3.out).1; rw [hl3_1] at HO_3; (try simp only [hl3_1])
    cases gk with
    | zero => exact absurd HA.out (by simp [impl_still.l0])
    | succ k1 =>
     have H := HA.out; clear HA; simp only [impl_still.l0] at H
     by_cases c7 : x9_1 < (y166.length : Int)
     ·rw [if_pos c7] at H
      have c7b0 := dT c7; (try simp only [hl3_1] at c7b0); clear c7
      by_cases c8 : 0 ≤ x9_1
      ·rw [if_pos c8] at H
       have c8b0 := dT c8; clear c8
       by_cases c9 : x9_1 < (x3_1.length : Int)
       ·rw [if_pos c9] at H
        have c9b0 := dT c9; (try simp only [hl3_1] at c9b0); clear c9
        obtain ⟨y169, hy169⟩ : ∃ y_ : List Int, y_ = (x3_1.set (x9_1 : Int).toNat x9_1) := ⟨_, rfl⟩
        replace H : (impl_still.l0 k1 y169 (y166.length : Int) (wrap64 (x9_1 + 1))) = some r := zH hy169 H
        have Ny169 := A0_ hy169; clear hy169; have H' := A0_ H; clear H
        have p10 : 0 ≤ (x9_1 : Int) := zd
        have q10 : (x9_1 : Int) < ((x3_1.length : Int) : Int) := zd
        obtain ⟨go10, co10, eo10, gb10, gl10, cl10, HG10⟩ := Kd.R_form HO_3.out (by omega)
        (first | cases eo10 | (injection eo10 with ea_ en_ ec_; (first | subst ea_ | (injection ea_ with ea_; subst ea_)); subst ec_; clear en_))
        have GB10 := A0_ gb10; have GG10 := A0_ HG10; clear gb10 gl10 HG10
        obtain ⟨hx10_0, hf10_0⟩ := Kd.R_celln 0 HO_3.out (x9_1 : Int) p10 q10
        replace p10 := eq_true p10; replace q10 := eq_true q10
        have HP11 := Kd.R_putg HO_3.out (x9_1 : Int) x9_1
        go_wp2_with (first | ((with_reducible refine gS (t := 3) (p := 15) rfl ?_); refine store_event (t := 3) (p := 15) (v := ?vo_w12) (w1 := (wr.setCell ⟨go10, (x9_1 : Int).toNat, none⟩ (.int .i64 x9_1))) ?hg ?ho ?hn ?hr ?_; (case ho => rfl); (case hg => rfl); (case hn => rfl); (case hr => first | (go_simp; done) | (go_simp; rfl)); intro w12 hw; have hg : wr.grownBy w12 (some go10) := (by rw [hw]; exact HP11.2); have hp_ : Kd.R (Kd.int .i64) 3 w12 w.heap.size (fun _ => True) (.slice (some ⟨go10, 0, none⟩) x3_1.length co6) y169 := (by rw [hw, Ny169.out]; exact HP11.1); clear HP11; replace HO_3 := A0_ (hp_); replace HB := A0_ ((by rw [hw]; exact bS (HB.out) GB10.out : Below w.heap.size w w12)); clear hg hw hp_))
        (try simp only [← hl3_1])
        go_roundg k1
        case measure => have := HK1.out; omega
        case rel => exact ⟨(y169), (wrap64 (x9_1 + 1)), zt, H', ⟨by have := HK1.out; omega⟩, ⟨by (try simp only [hl3_1]); (with_reducible repeat (first | apply rA | apply rN | apply rD)); exact HO_3.out⟩, ⟨zB_ HB⟩⟩
       rw [if_neg c9] at H
       exact absurd H (by simp)
      rw [if_neg c8] at H
      exact absurd H (by simp)
     rw [if_neg c7] at H; have c7b0 := dF c7; (try simp only [hl3_1] at c7b0); clear c7; obtain rfl := sI H
     go_wp2
     go_ret
     exact ⟨_, by first | rfl | (simp [*] <;> rfl), zR_ HO_3, zB_ HB⟩
  rw [if_neg c3] at H
  exact absurd H (by simp)
 rw [if_neg c2] at H
 exact absurd H (by simp)

end Go.Proofs.Ytmcgkckdnelcdaa.PFnTrivial
