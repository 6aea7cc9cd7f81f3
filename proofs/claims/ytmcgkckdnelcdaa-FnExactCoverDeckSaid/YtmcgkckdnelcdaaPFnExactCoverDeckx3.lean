-- Made by a program of this session (wip/tools) out of the loaded program; not trusted: Lean checks it.
import Derived.Test.YtmcgkckdnelcdaaPFnExactCoverDeckx0
import Derived.Test.YtmcgkckdnelcdaaPFnExactCoverDeckx1
import Derived.Test.YtmcgkckdnelcdaaPFnExactCoverDeckx2
-- packed
namespace Go.Proofs.Ytmcgkckdnelcdaa.PFnExactCoverDeck
open Go.RowKit Go.Proofs.YtmcgkckdnelcdaaW.PrintWords Go.Proofs.YtmcgkckdnelcdaaW.PrintLast Go.Proofs.YtmcgkckdnelcdaaW.PrintMore
attribute [local go_sem] max2_int min2_int max_two min_two max_three min_three max_four min_four   -- for this text's walks alone
set_option linter.unusedVariables false
set_option linter.unusedSimpArgs false

/-! ### spec_VoltageValid: function 17 -/
mutual
def spec_VoltageValid.j0 : Nat → Int → List (List Int) → Bool → Option (Bool)
  | 0, _, _, _ => none
  | k + 1, x1, x2, x32 => if x32 = true then (some false) else (spec_VoltageValid.l0 k x1 x2 0)
def spec_VoltageValid.l0 : Nat → Int → List (List Int) → Int → Option (Bool)
  | 0, _, _, _ => none
  | k + 1, x1, x2, x7 => if x7 < (x2.length : Int) then (if 0 ≤ x7 then ((spec_PermValid.f k (rd_L1 x2 x7)).bind fun t176 => (if t176 = true then (if ((rd_L1 x2 x7).length : Int) = x1 then (spec_VoltageValid.l0 k x1 x2 (wrap64 (x7 + 1))) else (some false)) else (some false))) else (none)) else (some true)
end
def spec_VoltageValid.f (k : Nat) (l0_0 : List Int) (l0_1 : List Int) (a1 : Int) (l2 : List (List Int)) : Option (Bool) := (spec_MapValid.f k l0_0 l0_1).bind fun t173 => (if t173 = true then ((spec_l6In.f a1 1 6).bind fun t174 => (if t174 = true then (if (wrap64 (a1 * (l0_0.length : Int))) > 12 then (spec_VoltageValid.j0 k a1 l2 true) else (spec_VoltageValid.j0 k a1 l2 ((l2.length : Int) != (wrap64 ((l0_1.length : Int) / 2))))) else (spec_VoltageValid.j0 k a1 l2 true))) else (spec_VoltageValid.j0 k a1 l2 true))
set_option maxHeartbeats 8000000 in
set_option maxRecDepth 100000 in
theorem spec_VoltageValid.calls (k : Nat) (A0_0 : Option Addr) (c0_0 : Nat) (l0_0 : List Int) (A0_1 : Option Addr) (c0_1 : Nat) (l0_1 : List Int) (a1 : Int) (A2 : Option Addr) (c2 : Nat) (l2 : List (List Int)) (r : Bool) (w : World) (hr0_0 : Kd.C (Kd.int .i64) w A0_0 l0_0.length l0_0) (hc0_0 : l0_0.length ≤ c0_0) (hr0_1 : Kd.C (Kd.int .i64) w A0_1 l0_1.length l0_1) (hc0_1 : l0_1.length ≤ c0_1) (hr2 : Kd.C (Kd.slice 3 (Kd.int .i64)) w A2 l2.length l2) (hc2 : l2.length ≤ c2) (h : spec_VoltageValid.f k l0_0 l0_1 a1 l2 = some r) :
    Calls Try.prog 17 #[.agg #[.slice A0_0 l0_0.length c0_0, .slice A0_1 l0_1.length c0_1], .int .i64 a1, .slice A2 l2.length c2] w fun e w' => e = .returned (.bool r) ∧ Below w.heap.size w w' := by
 have hu29 := Try.underlying29; have HR0_0 := A0_ hr0_0; have HC0_0 := A0_ hc0_0; clear hr0_0 hc0_0; have HR0_1 := A0_ hr0_1; have HC0_1 := A0_ hc0_1; clear hr0_1 hc0_1; have HR2 := A0_ hr2; have HC2 := A0_ hc2; clear hr2 hc2
 have HB := A0_ (Below.refl w.heap.size w)
 have H : ((spec_MapValid.f k l0_0 l0_1).bind fun t173 => (if t173 = true then ((spec_l6In.f a1 1 6).bind fun t174 => (if t174 = true then (if (wrap64 (a1 * (l0_0.length : Int))) > 12 then (spec_VoltageValid.j0 k a1 l2 true) else (spec_VoltageValid.j0 k a1 l2 ((l2.length : Int) != (wrap64 ((l0_1.length : Int) / 2))))) else (spec_VoltageValid.j0 k a1 l2 true))) else (spec_VoltageValid.j0 k a1 l2 true))) = some r := h
 clear h; have HC4 := A0_ H; clear H
 go_enter Try.func17, Try.ntmps17
 go_upto_region 1 with (first | ((with_reducible refine gD (N := 3) rfl ?_); refine zX (N := 3) (cs := #[.slice A0_0 l0_0.length c0_0, .slice A0_1 l0_1.length c0_1]) (t := 29) ?_; intro gb172 hg w5 hbox hb; have BK172 := A0_ (hbox); have GW172 := zG hg HB; have GE172 := zG hg HB; replace HB := zB HB hb; clear hb hbox hg))
 (try simp only [Act.put, List.setIfInBounds_toArray, List.set_cons_zero, List.set_cons_succ])
 go_cut [32] (fun v32 wc => ∃ (kq : Nat) (x32_3 : Bool), v32 = .bool x32_3 ∧ Aside0 (spec_VoltageValid.j0 kq a1 l2 x32_3 = some r) ∧ Aside0 (kq ≤ k) ∧ Aside0 (wc.heap[gb172]? = some (.cells #[(.slice A0_0 l0_0.length c0_0), (.slice A0_1 l0_1.length c0_1)] 29 (0, 0))) ∧ Aside0 (Below w.heap.size w wc))
 case first =>
  have H := HC4.out; clear HC4; obtain ⟨t173, A6, H⟩ := zbind H
  by_cases c7 : t173 = true
  ·subst c7
   rw [if_pos rfl] at H; obtain ⟨t174, A8, H⟩ := zbind H
   by_cases c9 : t174 = true
   ·subst c9
    rw [if_pos rfl] at H
    by_cases c10 : (wrap64 (a1 * (l0_0.length : Int))) > 12
    ·rw [if_pos c10] at H
     have c10b0 : decide (12 < (wrap64 (a1 * (l0_0.length : Int)))) = true := dT c10
     clear c10
     (first | rw [c10b0] | (simp only [i64_w, i32_w]; rw [c10b0]) | skip)
     have H' := A0_ H; clear H; have hcz11_0 := zc0 BK172; have hcz11_1 := zc1 BK172; have hfz11_0 := kF BK172.out 0; have hfz11_1 := kF BK172.out 1
     go_wp2_with (first | ((with_reducible refine gC (f := 56) rfl ?_); refine zJ (some 9) Try.func56 #[.agg #[.slice A0_0 l0_0.length c0_0, .slice A0_1 l0_1.length c0_1]] ?_; (with_reducible refine (spec_MapValid.calls k _ _ l0_0 _ _ l0_1 true _ ?side1 ?side2 ?side3 ?side4 A6.out).mono ?_); (case side1 => exact zC HR0_0 HB); (case side2 => exact HC0_0.out); (case side3 => exact zC HR0_1 HB); (case side4 => exact HC0_1.out); rintro e w12 ⟨rfl, hb⟩; refine ⟨_, rfl, ?_⟩; replace BK172 := zK BK172 hb; replace HB := zB HB hb; (try clear hb)) | (go_at_call 57; (with_reducible refine (spec_l6In.calls a1 1 6 true _ A8.out).mono ?_); rintro e w' ⟨rfl, ⟨nd, rfl⟩⟩; have hcz13_0 := zc0 BK172; have hcz13_1 := zc1 BK172; have hfz13_0 := kF BK172.out 0; have hfz13_1 := kF BK172.out 1))
     go_meet
     case rel => exact ⟨_, (true), zt, H', zo, ⟨zK_ BK172⟩, ⟨zB_ HB⟩⟩
    rw [if_neg c10] at H
    have c10b0 : decide (12 < (wrap64 (a1 * (l0_0.length : Int)))) = false := dF c10
    clear c10
    (first | rw [c10b0] | (simp only [i64_w, i32_w]; rw [c10b0]) | skip)
    have H' := A0_ H; clear H; have hcz14_0 := zc0 BK172; have hcz14_1 := zc1 BK172; have hfz14_0 := kF BK172.out 0; have hfz14_1 := kF BK172.out 1
    go_wp2_with (first | ((with_reducible refine gC (f := 56) rfl ?_); refine zJ (some 9) Try.func56 #[.agg #[.slice A0_0 l0_0.length c0_0, .slice A0_1 l0_1.length c0_1]] ?_; (with_reducible refine (spec_MapValid.calls k _ _ l0_0 _ _ l0_1 true _ ?side1 ?side2 ?side3 ?side4 A6.out).mono ?_); (case side1 => exact zC HR0_0 HB); (case side2 => exact HC0_0.out); (case side3 => exact zC HR0_1 HB); (case side4 => exact HC0_1.out); rintro e w15 ⟨rfl, hb⟩; refine ⟨_, rfl, ?_⟩; replace BK172 := zK BK172 hb; replace HB := zB HB hb; (try clear hb)) | (go_at_call 57; (with_reducible refine (spec_l6In.calls a1 1 6 true _ A8.out).mono ?_); rintro e w' ⟨rfl, ⟨nd, rfl⟩⟩; have hcz16_0 := zc0 BK172; have hcz16_1 := zc1 BK172; have hfz16_0 := kF BK172.out 0; have hfz16_1 := kF BK172.out 1))
    go_meet
    case rel => exact ⟨_, (((l2.length : Int) != (wrap64 ((l0_1.length : Int) / 2)))), zt, H', zo, ⟨zK_ BK172⟩, ⟨zB_ HB⟩⟩
   replace c9 := Bool.eq_false_iff.mpr c9; subst c9
   rw [if_neg (show ¬ (false = true) by decide)] at H
   have H' := A0_ H; clear H; have hcz17_0 := zc0 BK172; have hcz17_1 := zc1 BK172; have hfz17_0 := kF BK172.out 0; have hfz17_1 := kF BK172.out 1
   go_wp2_with (first | ((with_reducible refine gC (f := 56) rfl ?_); refine zJ (some 9) Try.func56 #[.agg #[.slice A0_0 l0_0.length c0_0, .slice A0_1 l0_1.length c0_1]] ?_; (with_reducible refine (spec_MapValid.calls k _ _ l0_0 _ _ l0_1 true _ ?side1 ?side2 ?side3 ?side4 A6.out).mono ?_); (case side1 => exact zC HR0_0 HB); (case side2 => exact HC0_0.out); (case side3 => exact zC HR0_1 HB); (case side4 => exact HC0_1.out); rintro e w18 ⟨rfl, hb⟩; refine ⟨_, rfl, ?_⟩; replace BK172 := zK BK172 hb; replace HB := zB HB hb; (try clear hb)) | (go_at_call 57; (with_reducible refine (spec_l6In.calls a1 1 6 false _ A8.out).mono ?_); rintro e w' ⟨rfl, ⟨nd, rfl⟩⟩))
   go_meet
   case rel => exact ⟨_, (true), zt, H', zo, ⟨zK_ BK172⟩, ⟨zB_ HB⟩⟩
  replace c7 := Bool.eq_false_iff.mpr c7; subst c7
  rw [if_neg (show ¬ (false = true) by decide)] at H
  have H' := A0_ H; clear H; have hcz19_0 := zc0 BK172; have hcz19_1 := zc1 BK172; have hfz19_0 := kF BK172.out 0; have hfz19_1 := kF BK172.out 1
  go_wp2_with (first | ((with_reducible refine gC (f := 56) rfl ?_); refine zJ (some 9) Try.func56 #[.agg #[.slice A0_0 l0_0.length c0_0, .slice A0_1 l0_1.length c0_1]] ?_; (with_reducible refine (spec_MapValid.calls k _ _ l0_0 _ _ l0_1 false _ ?side1 ?side2 ?side3 ?side4 A6.out).mono ?_); (case side1 => exact zC HR0_0 HB); (case side2 => exact HC0_0.out); (case side3 => exact zC HR0_1 HB); (case side4 => exact HC0_1.out); rintro e w20 ⟨rfl, hb⟩; refine ⟨_, rfl, ?_⟩; replace BK172 := zK BK172 hb; replace HB := zB HB hb; (try clear hb)))
  go_meet
  case rel => exact ⟨_, (true), zt, H', zo, ⟨zK_ BK172⟩, ⟨zB_ HB⟩⟩
 case rest =>
  clear HC4; (try clear c1); (try clear c2); (try clear p2); (try clear c5); (try clear p6); (try clear c7); (try clear c9); (try clear c10); (try clear c10b0); (try clear c17); (try clear hcz11_0); (try clear hcz11_1); (try clear hcz13_0); (try clear hcz13_1); (try clear hcz14_0); (try clear hcz14_1); (try clear hcz16_0); (try clear hcz16_1); (try clear hcz17_0); (try clear hcz17_1); (try clear hcz19_0); (try clear hcz19_1); (try clear hfz11_0); (try clear hfz11_1); (try clear hfz13_0); (try clear hfz13_1); (try clear hfz14_0); (try clear hfz14_1); (try clear hfz16_0); (try clear hfz16_1); (try clear hfz17_0); (try clear hfz17_1); (try clear hfz19_0); (try clear hfz19_1); obtain ⟨kq, x32_3, rfl, HA, HJ3, BK172, HB⟩ := hcut
  cases kq with
  | zero => exact absurd HA.out (by simp [spec_VoltageValid.j0])
  | succ kj3 =>
   have H := HA.out; clear HA; simp only [spec_VoltageValid.j0] at H
   by_cases c21 : x32_3 = true
   ·subst c21
    rw [if_pos rfl] at H; obtain rfl := sI H
    go_wp2
    go_ret
    exact ⟨by first | rfl | (simp [*] <;> rfl), zB_ HB⟩
   replace c21 := Bool.eq_false_iff.mpr c21; subst c21
   rw [if_neg (show ¬ (false = true) by decide)] at H
   have H' := A0_ H; clear H
   go_wp2
   go_loopg [7] kj3 (fun kq v7 w' => ∃ (x7_2 : Int), v7 = .int .i64 x7_2 ∧ Aside0 (spec_VoltageValid.l0 kq a1 l2 x7_2 = some r) ∧ Aside0 (kq ≤ kj3) ∧ Aside0 (w'.heap[gb172]? = some (.cells #[(.slice A0_0 l0_0.length c0_0), (.slice A0_1 l0_1.length c0_1)] 29 (0, 0))) ∧ Aside0 (Below w.heap.size w w'))
   case atStart => exact ⟨(0), zt, H', ⟨Nat.le_refl _⟩, ⟨zK_ BK172⟩, ⟨zB_ HB⟩⟩
   case round =>
    clear H'; (try clear c1); (try clear c2); (try clear p2); (try clear c5); (try clear p6); (try clear c7); (try clear c9); (try clear c10); (try clear c10b0); (try clear c17); (try clear c21); (try clear hcz11_0); (try clear hcz11_1); (try clear hcz13_0); (try clear hcz13_1); (try clear hcz14_0); (try clear hcz14_1); (try clear hcz16_0); (try clear hcz16_1); (try clear hcz17_0); (try clear hcz17_1); (try clear hcz19_0); (try clear hcz19_1); (try clear hfz11_0); (try clear hfz11_1); (try clear hfz13_0); (try clear hfz13_1); (try clear hfz14_0); (try clear hfz14_1); (try clear hfz16_0); (try clear hfz16_1); (try clear hfz17_0); (try clear hfz17_1); (try clear hfz19_0); (try clear hfz19_1); (try clear p2); (try clear p6); obtain ⟨x7_2, rfl, HA, HK2, BK172, HB⟩ := hrel
    cases gk with
    | zero => exact absurd HA.out (by simp [spec_VoltageValid.l0])
    | succ k2 =>
     have H := HA.out; clear HA; simp only [spec_VoltageValid.l0] at H
     by_cases c22 : x7_2 < (l2.length : Int)
     ·rw [if_pos c22] at H
      have c22b0 := dT c22; clear c22
      by_cases c23 : 0 ≤ x7_2
      ·rw [if_pos c23] at H
       have c23b0 := dT c23; clear c23; obtain ⟨t176, A24, H⟩ := zbind H
       by_cases c25 : t176 = true
       ·subst c25
        rw [if_pos rfl] at H
        by_cases c26 : ((rd_L1 l2 x7_2).length : Int) = a1
        ·rw [if_pos c26] at H
         have c26b0 : (((rd_L1 l2 x7_2).length : Int) == a1) = true := beq_iff_eq.mpr c26
         have c26b1 : (((rd_L1 l2 x7_2).length : Int) != a1) = false := bne_eq_false_iff_eq.mpr c26
         clear c26; have H' := A0_ H; clear H
         have p175 : 0 ≤ (x7_2 : Int) := zd
         have q175 : x7_2 < (l2.length : Int) := zd
         obtain ⟨ad175, A175_0, c175_0, e175, hx175_0, hl175_0, hi175_0⟩ := at_L1 HR2.out x7_2 p175 q175
         cases e175
         try replace hx175_0 := (HB.out.cell (wL w _ hx175_0)).trans hx175_0
         have HR175_0 := A0_ hi175_0; have HC175_0 := A0_ hl175_0; clear hi175_0 hl175_0; replace p175 := eq_true p175; replace q175 := eq_true q175
         go_wp2_with (first | ((with_reducible refine gC (f := 58) rfl ?_); refine zJ (some 43) Try.func58 #[.slice A175_0 (rd_L1 l2 x7_2).length c175_0] ?_; (with_reducible refine (spec_PermValid.calls k2 _ _ (rd_L1 l2 x7_2) true _ ?side1 ?side2 A24.out).mono ?_); (case side1 => exact zC HR175_0 HB); (case side2 => exact HC175_0.out); rintro e w' ⟨rfl, ⟨nd, rfl⟩⟩; refine ⟨_, rfl, ?_⟩; have p177 : 0 ≤ (x7_2 : Int) := zd; have q177 : x7_2 < (l2.length : Int) := zd; obtain ⟨ad177, A177_0, c177_0, e177, hx177_0, hl177_0, hi177_0⟩ := at_L1 HR2.out x7_2 p177 q177; obtain rfl : ad175 = ad177 := (by injection e177); try replace hx177_0 := (HB.out.cell (wL w _ hx177_0)).trans hx177_0; have HR177_0 := A0_ hi177_0; have HC177_0 := A0_ hl177_0; clear hi177_0 hl177_0; replace p177 := eq_true p177; replace q177 := eq_true q177; have ea_ := sI (hx175_0.symm.trans hx177_0); injection ea_ with ea_ en_ ec_; subst ea_; subst ec_; clear en_))
         go_roundg k2
         case measure => have := HJ3.out; have := HK2.out; omega
         case rel => exact ⟨(wrap64 (x7_2 + 1)), zt, H', ⟨by have := HJ3.out; have := HK2.out; omega⟩, ⟨zK_ BK172⟩, ⟨zB_ HB⟩⟩
        rw [if_neg c26] at H
        have c26b0 : (((rd_L1 l2 x7_2).length : Int) == a1) = false := beq_eq_false_iff_ne.mpr c26
        have c26b1 : (((rd_L1 l2 x7_2).length : Int) != a1) = true := bne_iff_ne.mpr c26
        obtain rfl := sI H
        have p175 : 0 ≤ (x7_2 : Int) := zd
        have q175 : x7_2 < (l2.length : Int) := zd
        obtain ⟨ad175, A175_0, c175_0, e175, hx175_0, hl175_0, hi175_0⟩ := at_L1 HR2.out x7_2 p175 q175
        cases e175
        try replace hx175_0 := (HB.out.cell (wL w _ hx175_0)).trans hx175_0
        have HR175_0 := A0_ hi175_0; have HC175_0 := A0_ hl175_0; clear hi175_0 hl175_0; replace p175 := eq_true p175; replace q175 := eq_true q175
        go_wp2_with (first | ((with_reducible refine gC (f := 58) rfl ?_); refine zJ (some 43) Try.func58 #[.slice A175_0 (rd_L1 l2 x7_2).length c175_0] ?_; (with_reducible refine (spec_PermValid.calls k2 _ _ (rd_L1 l2 x7_2) true _ ?side1 ?side2 A24.out).mono ?_); (case side1 => exact zC HR175_0 HB); (case side2 => exact HC175_0.out); rintro e w' ⟨rfl, ⟨nd, rfl⟩⟩; refine ⟨_, rfl, ?_⟩; have p177 : 0 ≤ (x7_2 : Int) := zd; have q177 : x7_2 < (l2.length : Int) := zd; obtain ⟨ad177, A177_0, c177_0, e177, hx177_0, hl177_0, hi177_0⟩ := at_L1 HR2.out x7_2 p177 q177; obtain rfl : ad175 = ad177 := (by injection e177); try replace hx177_0 := (HB.out.cell (wL w _ hx177_0)).trans hx177_0; have HR177_0 := A0_ hi177_0; have HC177_0 := A0_ hl177_0; clear hi177_0 hl177_0; replace p177 := eq_true p177; replace q177 := eq_true q177; have ea_ := sI (hx175_0.symm.trans hx177_0); injection ea_ with ea_ en_ ec_; subst ea_; subst ec_; clear en_))
        go_ret
        exact ⟨by first | rfl | (simp [*] <;> rfl), zB_ HB⟩
       replace c25 := Bool.eq_false_iff.mpr c25; subst c25
       rw [if_neg (show ¬ (false = true) by decide)] at H
       obtain rfl := sI H
       have p175 : 0 ≤ (x7_2 : Int) := zd
       have q175 : x7_2 < (l2.length : Int) := zd
       obtain ⟨ad175, A175_0, c175_0, e175, hx175_0, hl175_0, hi175_0⟩ := at_L1 HR2.out x7_2 p175 q175
       cases e175
       try replace hx175_0 := (HB.out.cell (wL w _ hx175_0)).trans hx175_0
       have HR175_0 := A0_ hi175_0; have HC175_0 := A0_ hl175_0; clear hi175_0 hl175_0; replace p175 := eq_true p175; replace q175 := eq_true q175
       go_wp2_with (first | ((with_reducible refine gC (f := 58) rfl ?_); refine zJ (some 43) Try.func58 #[.slice A175_0 (rd_L1 l2 x7_2).length c175_0] ?_; (with_reducible refine (spec_PermValid.calls k2 _ _ (rd_L1 l2 x7_2) false _ ?side1 ?side2 A24.out).mono ?_); (case side1 => exact zC HR175_0 HB); (case side2 => exact HC175_0.out); rintro e w' ⟨rfl, ⟨nd, rfl⟩⟩; refine ⟨_, rfl, ?_⟩))
       go_ret
       exact ⟨by first | rfl | (simp [*] <;> rfl), zB_ HB⟩
      rw [if_neg c23] at H
      exact absurd H (by simp)
     rw [if_neg c22] at H; have c22b0 := dF c22; clear c22; obtain rfl := sI H
     go_wp2
     go_ret
     exact ⟨by first | rfl | (simp [*] <;> rfl), zB_ HB⟩

/-! ### spec_l3Next: function 65 -/
mutual
def spec_l3Next.j1 : Nat → List Int → Int → Option (List Int)
  | 0, _, _ => none
  | k + 1, x0, x3 => if x3 < 0 then (some (([] : List Int))) else (spec_l3Next.l1 k x0 x3 (wrap64 ((x0.length : Int) - 1)))
def spec_l3Next.l1 : Nat → List Int → Int → Int → Option (List Int)
  | 0, _, _, _ => none
  | k + 1, x0, x3, x4 => if 0 ≤ x4 then (if x4 < (x0.length : Int) then (if 0 ≤ x3 then (if x3 < (x0.length : Int) then (if (rd x0 x4) < (rd x0 x3) then (spec_l3Next.l1 k x0 x3 (wrap64 (x4 - 1))) else ((some (([] : List Int) : List Int)).bind fun y185 => (if x3 ≤ (x0.length : Int) then (if y185.length + (x0.take (x3 : Int).toNat).length < 17592186044416 then ((some (y185 ++ (x0.take (x3 : Int).toNat) : List Int)).bind fun y189 => (if y189.length < 17592186044416 then (spec_l3Next.l2 k x0 x3 x4 (y189 ++ [rd x0 x4]) (wrap64 ((x0.length : Int) - 1))) else (none))) else (none)) else (none)))) else (none)) else (none)) else (none)) else (none)
def spec_l3Next.l2 : Nat → List Int → Int → Int → List Int → Int → Option (List Int)
  | 0, _, _, _, _, _ => none
  | k + 1, x0, x3, x4, x5, x6 => if x6 > x3 then (if x6 = x4 then (if 0 ≤ x3 then (if x3 < (x0.length : Int) then (if x5.length < 17592186044416 then (spec_l3Next.l2 k x0 x3 x4 (x5 ++ [rd x0 x3]) (wrap64 (x6 - 1))) else (none)) else (none)) else (none)) else (if 0 ≤ x6 then (if x6 < (x0.length : Int) then (if x5.length < 17592186044416 then (spec_l3Next.l2 k x0 x3 x4 (x5 ++ [rd x0 x6]) (wrap64 (x6 - 1))) else (none)) else (none)) else (none))) else (some x5)
def spec_l3Next.l0 : Nat → List Int → Int → Option (List Int)
  | 0, _, _ => none
  | k + 1, x0, x3 => if x3 ≥ 0 then (if 0 ≤ x3 then (if x3 < (x0.length : Int) then (if 0 ≤ (wrap64 (x3 + 1)) then (if (wrap64 (x3 + 1)) < (x0.length : Int) then (if (rd x0 x3) > (rd x0 (wrap64 (x3 + 1))) then (spec_l3Next.l0 k x0 (wrap64 (x3 - 1))) else (spec_l3Next.j1 k x0 x3)) else (none)) else (none)) else (none)) else (none)) else (spec_l3Next.j1 k x0 x3)
end
def spec_l3Next.f (k : Nat) (l0 : List Int) : Option (List Int) := spec_l3Next.l0 k l0 (wrap64 ((l0.length : Int) - 2))
set_option maxHeartbeats 8000000 in
set_option maxRecDepth 100000 in
theorem spec_l3Next.calls (k : Nat) (A0 : Option Addr) (c0 : Nat) (l0 : List Int) (r : List Int) (w : World) (hr0 : Kd.C (Kd.int .i64) w A0 l0.length l0) (hc0 : l0.length ≤ c0) (h : spec_l3Next.f k l0 = some r) :
    Calls Try.prog 65 #[.slice A0 l0.length c0] w fun e w' => ∃ v0_ : Value, e = .returned (v0_) ∧ Kd.R (Kd.int .i64) 3 w' w.heap.size (fun _ => True) v0_ r ∧ Below w.heap.size w w' := by
 have HR0 := A0_ hr0; have HC0 := A0_ hc0; clear hr0 hc0
 have HB := A0_ (Below.refl w.heap.size w)
 have H : (spec_l3Next.l0 k l0 (wrap64 ((l0.length : Int) - 2))) = some r := h
 clear h; have HC2 := A0_ H; clear H
 go_enter Try.func65, Try.ntmps65
 go_upto_block 0 with (fail)
 repeat (go_quiet (fail); go_upto_block 0 with (fail))
 go_cut [3] (fun v3 wc => ∃ (kq : Nat) (x3_1 : Int), v3 = .int .i64 x3_1 ∧ Aside0 (spec_l3Next.j1 kq l0 x3_1 = some r) ∧ Aside0 (kq ≤ k) ∧ Aside0 (Below w.heap.size w wc))
 case first =>
  have H := HC2.out; clear HC2; have H' := A0_ H; clear H
  go_wp2
  repeat (go_quiet (fail); try go_wp2)
  go_loopg [3] k (fun kq v3 w' => ∃ (x3_1 : Int), v3 = .int .i64 x3_1 ∧ Aside0 (spec_l3Next.l0 kq l0 x3_1 = some r) ∧ Aside0 (kq ≤ k) ∧ Aside0 (Below w.heap.size w w'))
  case atStart => exact ⟨(wrap64 ((l0.length : Int) - 2)), zt, H', ⟨Nat.le_refl _⟩, ⟨zB_ HB⟩⟩
  case round =>
   clear H'; (try clear p2); obtain ⟨x3_1, rfl, HA, HK1, HB⟩ := hrel
   cases gk with
   | zero => exact absurd HA.out (by simp [spec_l3Next.l0])
   | succ k1 =>
    have H := HA.out; clear HA; simp only [spec_l3Next.l0] at H
    by_cases c3 : x3_1 ≥ 0
    ·rw [if_pos c3] at H
     have c3b0 : decide (0 ≤ x3_1) = true := dT c3
     clear c3
     (first | rw [c3b0] | (simp only [i64_w, i32_w]; rw [c3b0]) | skip)
     by_cases c4 : 0 ≤ x3_1
     ·rw [if_pos c4] at H
      have c4b0 := dT c4; clear c4
      by_cases c5 : x3_1 < (l0.length : Int)
      ·rw [if_pos c5] at H
       have c5b0 := dT c5; clear c5
       obtain ⟨ji6, hji6⟩ : ∃ j_ : Int, (wrap64 (x3_1 + 1)) = j_ := ⟨_, rfl⟩
       replace H : (if 0 ≤ (ji6) then (if (ji6) < (l0.length : Int) then (if (rd l0 x3_1) > (rd l0 (ji6)) then (spec_l3Next.l0 k1 l0 (wrap64 (x3_1 - 1))) else (spec_l3Next.j1 k1 l0 x3_1)) else (none)) else (none)) = some r := by first | (rw [hji6] at H; exact H) | (simp only [hji6] at H ⊢; exact H)
       have hji6w : (IntKind.i64.wrap (x3_1 + 1)) = ji6 := (i64_w _).trans hji6
       by_cases c7 : 0 ≤ (ji6)
       ·rw [if_pos c7] at H
        have c7b0 := dT c7; clear c7
        by_cases c8 : (ji6) < (l0.length : Int)
        ·rw [if_pos c8] at H
         have c8b0 := dT c8; clear c8
         by_cases c9 : (rd l0 x3_1) > (rd l0 (ji6))
         ·rw [if_pos c9] at H
          have c9b0 : decide ((rd l0 (ji6)) < (rd l0 x3_1)) = true := dT c9
          clear c9; have H' := A0_ H; clear H
          have p178 : 0 ≤ (x3_1 : Int) := zd
          have q178 : x3_1 < (l0.length : Int) := zd
          obtain ⟨ad178, e178, hx178_0⟩ := tI HR0.out x3_1 p178 q178
          cases e178
          try replace hx178_0 := (HB.out.cell (wL w _ hx178_0)).trans hx178_0
          replace p178 := eq_true p178; replace q178 := eq_true q178
          have p179 : 0 ≤ ((ji6) : Int) := zd
          have q179 : (ji6) < (l0.length : Int) := zd
          obtain ⟨ad179, e179, hx179_0⟩ := tI HR0.out (ji6) p179 q179
          obtain rfl : ad178 = ad179 := (by injection e179)
          try replace hx179_0 := (HB.out.cell (wL w _ hx179_0)).trans hx179_0
          replace p179 := eq_true p179; replace q179 := eq_true q179
          go_wp2
          repeat (go_quiet (fail); try go_wp2)
          go_roundg k1
          case measure => have := HK1.out; omega
          case rel => exact ⟨(wrap64 (x3_1 - 1)), zt, H', ⟨by have := HK1.out; omega⟩, ⟨zB_ HB⟩⟩
         rw [if_neg c9] at H
         have c9b0 : decide ((rd l0 (ji6)) < (rd l0 x3_1)) = false := dF c9
         clear c9; have H' := A0_ H; clear H
         have p178 : 0 ≤ (x3_1 : Int) := zd
         have q178 : x3_1 < (l0.length : Int) := zd
         obtain ⟨ad178, e178, hx178_0⟩ := tI HR0.out x3_1 p178 q178
         cases e178
         try replace hx178_0 := (HB.out.cell (wL w _ hx178_0)).trans hx178_0
         replace p178 := eq_true p178; replace q178 := eq_true q178
         have p179 : 0 ≤ ((ji6) : Int) := zd
         have q179 : (ji6) < (l0.length : Int) := zd
         obtain ⟨ad179, e179, hx179_0⟩ := tI HR0.out (ji6) p179 q179
         obtain rfl : ad178 = ad179 := (by injection e179)
         try replace hx179_0 := (HB.out.cell (wL w _ hx179_0)).trans hx179_0
         replace p179 := eq_true p179; replace q179 := eq_true q179
         go_wp2
         repeat (go_quiet (fail); try go_wp2)
         go_meet
         case rel => exact ⟨_, (x3_1), zt, H', ⟨by have := HK1.out; first | omega | exact Nat.le_refl _⟩, ⟨zB_ HB⟩⟩
        rw [if_neg c8] at H
        exact absurd H (by simp)
       rw [if_neg c7] at H
       exact absurd H (by simp)
      rw [if_neg c5] at H
      exact absurd H (by simp)
     rw [if_neg c4] at H
     exact absurd H (by simp)
    rw [if_neg c3] at H
    have c3b0 : decide (0 ≤ x3_1) = false := dF c3
    clear c3
    (first | rw [c3b0] | (simp only [i64_w, i32_w]; rw [c3b0]) | skip)
    have H' := A0_ H; clear H
    go_wp2
    repeat (go_quiet (fail); try go_wp2)
    go_meet
    case rel => exact ⟨_, (x3_1), zt, H', ⟨by have := HK1.out; first | omega | exact Nat.le_refl _⟩, ⟨zB_ HB⟩⟩
 case rest =>
  clear HC2; (try clear p1); (try clear q1); (try clear hx1); (try clear p2); (try clear c3); (try clear c3b0); (try clear c4); (try clear c4b0); (try clear c5); (try clear c5b0); (try clear c6); (try clear p6); (try clear c7); (try clear c7b0); (try clear c8); (try clear c8b0); (try clear c9); (try clear c9b0); (try clear hx178_0); (try clear hx179_0); (try clear p178); (try clear p179); (try clear p2); (try clear q178); (try clear q179); obtain ⟨kq, x3_1, rfl, HA, HJ1, HB⟩ := hcut
  cases kq with
  | zero => exact absurd HA.out (by simp [spec_l3Next.j1])
  | succ kj1 =>
   have H := HA.out; clear HA; simp only [spec_l3Next.j1] at H
   by_cases c10 : x3_1 < 0
   ·rw [if_pos c10] at H
    have c10b0 := dT c10; clear c10
    obtain ⟨y180, hy180⟩ : ∃ y_ : List Int, y_ = (([] : List Int)) := ⟨_, rfl⟩
    replace H : (some y180) = some r := zH hy180 H
    have Ny180 := A0_ hy180; clear hy180; obtain rfl := sI H
    go_wp2_with (first | ((with_reducible refine gD (N := 28) rfl ?_); refine Kd.R_lit (Kd.int .i64) _ 3 ?hg (N := 28) ?hd (xs := ([] : List Int)) (inner := []) (ok := fun _ => True) (okp := fun _ => True) ?hr ?hp (fun _ hk => hk) trivial (Below.refl _ _) (Nat.le_refl _) (by simp) ?_; (case hd => rfl); (case hg => rfl); (case hr => first | (go_simp; done) | (go_simp; rfl)); (case hp => exact (Reps.none _ _)); intro v181 w11 ho12 hb hg_ hnew_; clear hg_ hnew_; (first | rw [← Ny180.out] at ho12 | (simp only [Int.reduceToNat] at ho12; rw [← Ny180.out] at ho12)); have HO182 := A0_ (rL ho12 (bZ (zB_ HB))); replace HB := zB HB hb; clear hb ho12))
    repeat (go_quiet (first | ((with_reducible refine gD (N := 28) rfl ?_); refine Kd.R_lit (Kd.int .i64) _ 3 ?hg (N := 28) ?hd (xs := ([] : List Int)) (inner := []) (ok := fun _ => True) (okp := fun _ => True) ?hr ?hp (fun _ hk => hk) trivial (Below.refl _ _) (Nat.le_refl _) (by simp) ?_; (case hd => rfl); (case hg => rfl); (case hr => first | (go_simp; done) | (go_simp; rfl)); (case hp => exact (Reps.none _ _)); intro v181 w11 ho12 hb hg_ hnew_; clear hg_ hnew_; (first | rw [← Ny180.out] at ho12 | (simp only [Int.reduceToNat] at ho12; rw [← Ny180.out] at ho12)); have HO182 := A0_ (rL ho12 (bZ (zB_ HB))); replace HB := zB HB hb; clear hb ho12)); try go_wp2_with (first | ((with_reducible refine gD (N := 28) rfl ?_); refine Kd.R_lit (Kd.int .i64) _ 3 ?hg (N := 28) ?hd (xs := ([] : List Int)) (inner := []) (ok := fun _ => True) (okp := fun _ => True) ?hr ?hp (fun _ hk => hk) trivial (Below.refl _ _) (Nat.le_refl _) (by simp) ?_; (case hd => rfl); (case hg => rfl); (case hr => first | (go_simp; done) | (go_simp; rfl)); (case hp => exact (Reps.none _ _)); intro v181 w11 ho12 hb hg_ hnew_; clear hg_ hnew_; (first | rw [← Ny180.out] at ho12 | (simp only [Int.reduceToNat] at ho12; rw [← Ny180.out] at ho12)); have n0_ := A0_ (rL ho12 (bZ (zB_ HB))); have n1_ := zB HB hb; clear HB; have HO182 := n0_; have HB := n1_; clear n0_ n1_ hb ho12)))
    go_ret
    exact ⟨_, by first | rfl | (simp [*] <;> rfl), zR_ HO182, zB_ HB⟩
   rw [if_neg c10] at H; have c10b0 := dF c10; clear c10; have H' := A0_ H; clear H
   go_wp2
   repeat (go_quiet (fail); try go_wp2)
   go_loopg [4] kj1 (fun kq v4 w' => ∃ (x4_2 : Int), v4 = .int .i64 x4_2 ∧ Aside0 (spec_l3Next.l1 kq l0 x3_1 x4_2 = some r) ∧ Aside0 (kq ≤ kj1) ∧ Aside0 (Below w.heap.size w w'))
   case atStart => exact ⟨(wrap64 ((l0.length : Int) - 1)), zt, H', ⟨Nat.le_refl _⟩, ⟨zB_ HB⟩⟩
   case round =>
    clear H'; (try clear c1); (try clear p1); (try clear q1); (try clear hx1); (try clear p2); (try clear c3); (try clear c3b0); (try clear c4); (try clear c4b0); (try clear c5); (try clear c5b0); (try clear c6); (try clear p6); (try clear c7); (try clear c7b0); (try clear c8); (try clear c8b0); (try clear c9); (try clear c9b0); (try clear c10); (try clear c10b0); (try clear hx178_0); (try clear hx179_0); (try clear p1); (try clear p178); (try clear p179); (try clear p2); (try clear p6); (try clear q1); (try clear q178); (try clear q179); obtain ⟨x4_2, rfl, HA, HK2, HB⟩ := hrel
    cases gk with
    | zero => exact absurd HA.out (by simp [spec_l3Next.l1])
    | succ k2 =>
     have H := HA.out; clear HA; simp only [spec_l3Next.l1] at H
     by_cases c13 : 0 ≤ x4_2
     ·rw [if_pos c13] at H
      have c13b0 := dT c13; clear c13
      by_cases c14 : x4_2 < (l0.length : Int)
      ·rw [if_pos c14] at H
       have c14b0 := dT c14; clear c14
       by_cases c15 : 0 ≤ x3_1
       ·rw [if_pos c15] at H
        have c15b0 := dT c15; clear c15
        by_cases c16 : x3_1 < (l0.length : Int)
        ·rw [if_pos c16] at H
         have c16b0 := dT c16; clear c16
         by_cases c17 : (rd l0 x4_2) < (rd l0 x3_1)
         ·rw [if_pos c17] at H
          have c17b0 := dT c17; clear c17; have H' := A0_ H; clear H
          have p183 : 0 ≤ (x4_2 : Int) := zd
          have q183 : x4_2 < (l0.length : Int) := zd
          obtain ⟨ad183, e183, hx183_0⟩ := tI HR0.out x4_2 p183 q183
          cases e183
          try replace hx183_0 := (HB.out.cell (wL w _ hx183_0)).trans hx183_0
          replace p183 := eq_true p183; replace q183 := eq_true q183
          have p184 : 0 ≤ (x3_1 : Int) := zd
          have q184 : x3_1 < (l0.length : Int) := zd
          obtain ⟨ad184, e184, hx184_0⟩ := tI HR0.out x3_1 p184 q184
          obtain rfl : ad183 = ad184 := (by injection e184)
          try replace hx184_0 := (HB.out.cell (wL w _ hx184_0)).trans hx184_0
          replace p184 := eq_true p184; replace q184 := eq_true q184
          go_wp2
          repeat (go_quiet (fail); try go_wp2)
          go_roundg k2
          case measure => have := HJ1.out; have := HK2.out; omega
          case rel => exact ⟨(wrap64 (x4_2 - 1)), zt, H', ⟨by have := HJ1.out; have := HK2.out; omega⟩, ⟨zB_ HB⟩⟩
         rw [if_neg c17] at H; have c17b0 := dF c17; clear c17
         obtain ⟨y185, hy185⟩ : ∃ y_ : List Int, y_ = (([] : List Int)) := ⟨_, rfl⟩
         replace H : (if x3_1 ≤ (l0.length : Int) then (if y185.length + (l0.take (x3_1 : Int).toNat).length < 17592186044416 then ((some (y185 ++ (l0.take (x3_1 : Int).toNat) : List Int)).bind fun y189 => (if y189.length < 17592186044416 then (spec_l3Next.l2 k2 l0 x3_1 x4_2 (y189 ++ [rd l0 x4_2]) (wrap64 ((l0.length : Int) - 1))) else (none))) else (none)) else (none)) = some r := zH hy185 H
         have Ny185 := A0_ hy185; clear hy185
         have c18b0 := eq_true (zd : 0 ≤ x3_1)
         by_cases c19 : x3_1 ≤ (l0.length : Int)
         ·rw [if_pos c19] at H
          have c19b0 := eq_true c19; have c19b1 := dT c19; clear c19
          by_cases c20 : y185.length + (l0.take (x3_1 : Int).toNat).length < 17592186044416
          ·rw [if_pos c20] at H
           have LMc20 := A0_ c20; clear c20
           obtain ⟨y189, hy189⟩ : ∃ y_ : List Int, y_ = (y185 ++ (l0.take (x3_1 : Int).toNat)) := ⟨_, rfl⟩
           replace H : (if y189.length < 17592186044416 then (spec_l3Next.l2 k2 l0 x3_1 x4_2 (y189 ++ [rd l0 x4_2]) (wrap64 ((l0.length : Int) - 1))) else (none)) = some r := zH hy189 H
           have Ny189 := A0_ hy189; clear hy189
           by_cases c21 : y189.length < 17592186044416
           ·rw [if_pos c21] at H
            have LMc21 := A0_ c21; clear c21
            obtain ⟨y193, hy193⟩ : ∃ y_ : List Int, y_ = (y189 ++ [rd l0 x4_2]) := ⟨_, rfl⟩
            replace H : (spec_l3Next.l2 k2 l0 x3_1 x4_2 y193 (wrap64 ((l0.length : Int) - 1))) = some r := zH hy193 H
            have Ny193 := A0_ hy193; clear hy193; have H' := A0_ H; clear H
            have p183 : 0 ≤ (x4_2 : Int) := zd
            have q183 : x4_2 < (l0.length : Int) := zd
            obtain ⟨ad183, e183, hx183_0⟩ := tI HR0.out x4_2 p183 q183
            cases e183
            try replace hx183_0 := (HB.out.cell (wL w _ hx183_0)).trans hx183_0
            replace p183 := eq_true p183; replace q183 := eq_true q183
            have p184 : 0 ≤ (x3_1 : Int) := zd
            have q184 : x3_1 < (l0.length : Int) := zd
            obtain ⟨ad184, e184, hx184_0⟩ := tI HR0.out x3_1 p184 q184
            obtain rfl : ad183 = ad184 := (by injection e184)
            try replace hx184_0 := (HB.out.cell (wL w _ hx184_0)).trans hx184_0
            replace p184 := eq_true p184; replace q184 := eq_true q184
            go_wp2_with (first | ((with_reducible refine gD (N := 43) rfl ?_); refine Kd.R_lit (Kd.int .i64) _ 3 ?hg (N := 43) ?hd (xs := ([] : List Int)) (inner := []) (ok := fun _ => True) (okp := fun _ => True) ?hr ?hp (fun _ hk => hk) trivial (Below.refl _ _) (Nat.le_refl _) (by simp) ?_; (case hd => rfl); (case hg => rfl); (case hr => first | (go_simp; done) | (go_simp; rfl)); (case hp => exact (Reps.none _ _)); intro v186 w22 ho23 hb hg_ hnew_; clear hg_ hnew_; (first | rw [← Ny185.out] at ho23 | (simp only [Int.reduceToNat] at ho23; rw [← Ny185.out] at ho23)); have HO187 := A0_ (rL ho23 (bZ (zB_ HB))); replace HB := zB HB hb; clear hb ho23; obtain ⟨i024, hi024, _, hsz24, _⟩ := info_parts info3; obtain ⟨hcut24, hA24, hC24⟩ := print_take_of (P := Try.prog) (Value.int .i64) 0 22 3 .i64 Try.underlying22 hi024 hsz24 (some ad183) c0 l0 x3_1 (zd) (zd) HC0.out; have HR188 := A0_ (Kd.C_of_reads (h1 := fun _ => rfl) (hA24 _ (Kd.reads_of_C HR0.out))); have HC188 := A0_ hC24; clear hA24 hC24 hi024 hsz24) | ((with_reducible refine gB (b := .append) (xs := #[.tmp 43, .tmp 46]) rfl ?_); at_builtin; refine Kd.R_append_rows (Kd.int .i64) (w0 := w) w.heap.size rfl (.tmp 43) (.tmp 46) 22 3 (.int .i64 0) 8 rfl Try.underlying22 info3 rfl (by decide) (by omega) v186 y185 (l0.take (x3_1 : Int).toNat) _ _ _ (fun _ => True) (fun _ => False) rfl rfl ?aO ?aR (fun _ _ h => h) (fun _ h => h.elim) ?aF ?aB ?aS ?aL ?_; (case aR => first | (have h0_ := cB HR188.out HB.out; rw [show (l0.take (x3_1 : Int).toNat).length = x3_1.toNat from (by rw [List.length_take]; have h_ : (x3_1 : Int) ≤ (l0.length : Int) := zd; omega)] at h0_; exact h0_) | (rw [← show (l0.take (x3_1 : Int).toNat).length = x3_1.toNat from (by rw [List.length_take]; have h_ : (x3_1 : Int) ≤ (l0.length : Int) := zd; omega)]; repeat (first | exact (cB HR188.out HB.out) | (with_reducible refine cA ?_ _))) | (repeat (first | exact (cB HR188.out HB.out) | (with_reducible refine cA ?_ _)))); (case aB => exact (zB_ HB)); (case aF => exact (fun _ _ => trivial)); (case aO => exact (zR_ HO187)); (case aS => exact (bZ (zB_ HB))); (case aL => have := LMc20.out; have hlx_ := (show (l0.take (x3_1 : Int).toNat).length = x3_1.toNat from (by rw [List.length_take]; have h_ : (x3_1 : Int) ≤ (l0.length : Int) := zd; omega)); omega); intro v190 w25 ho hb hg hat; rw [← Ny189.out] at ho; replace HB := A0_ (hb); have HO191 := A0_ (ho); clear HO187 ho hb hg hat; have p192 : 0 ≤ (x4_2 : Int) := zd; have q192 : x4_2 < (l0.length : Int) := zd; obtain ⟨ad192, e192, hx192_0⟩ := tI HR0.out x4_2 p192 q192; obtain rfl : ad183 = ad192 := (by injection e192); try replace hx192_0 := (HB.out.cell (wL w _ hx192_0)).trans hx192_0; replace p192 := eq_true p192; replace q192 := eq_true q192) | ((with_reducible refine gB (b := .append) (xs := #[.tmp 48, .tmp 53]) rfl ?_); at_builtin; refine Kd.R_append (Kd.int .i64) (w0 := w) w.heap.size rfl (.tmp 48) (.tmp 53) 22 3 (.int .i64 0) 8 rfl Try.underlying22 info3 rfl (by decide) (by omega) v190 y189 (rd l0 x4_2) [.int .i64 (rd l0 x4_2)] (fun _ => True) (fun _ => False) rfl rfl ?aP (fun _ hk => hk.elim) ?aF ?aO ?aB ?aS ?aL ?_; (case aP => exact rfl); (case aB => exact (zB_ HB)); (case aF => exact (fun _ _ => trivial)); (case aO => exact (zR_ HO191)); (case aS => exact (bZ (zB_ HB))); (case aL => have := LMc21.out; omega); intro v194 w26 ho hb hg hat; rw [← Ny193.out] at ho; replace HB := A0_ (hb); have HO195 := A0_ (ho); clear HO191 ho hb hg hat))
            repeat (go_quiet (first | ((with_reducible refine gD (N := 43) rfl ?_); refine Kd.R_lit (Kd.int .i64) _ 3 ?hg (N := 43) ?hd (xs := ([] : List Int)) (inner := []) (ok := fun _ => True) (okp := fun _ => True) ?hr ?hp (fun _ hk => hk) trivial (Below.refl _ _) (Nat.le_refl _) (by simp) ?_; (case hd => rfl); (case hg => rfl); (case hr => first | (go_simp; done) | (go_simp; rfl)); (case hp => exact (Reps.none _ _)); intro v186 w22 ho23 hb hg_ hnew_; clear hg_ hnew_; (first | rw [← Ny185.out] at ho23 | (simp only [Int.reduceToNat] at ho23; rw [← Ny185.out] at ho23)); have HO187 := A0_ (rL ho23 (bZ (zB_ HB))); replace HB := zB HB hb; clear hb ho23; obtain ⟨i024, hi024, _, hsz24, _⟩ := info_parts info3; obtain ⟨hcut24, hA24, hC24⟩ := print_take_of (P := Try.prog) (Value.int .i64) 0 22 3 .i64 Try.underlying22 hi024 hsz24 (some ad183) c0 l0 x3_1 (zd) (zd) HC0.out; have HR188 := A0_ (Kd.C_of_reads (h1 := fun _ => rfl) (hA24 _ (Kd.reads_of_C HR0.out))); have HC188 := A0_ hC24; clear hA24 hC24 hi024 hsz24) | ((with_reducible refine gB (b := .append) (xs := #[.tmp 43, .tmp 46]) rfl ?_); at_builtin; refine Kd.R_append_rows (Kd.int .i64) (w0 := w) w.heap.size rfl (.tmp 43) (.tmp 46) 22 3 (.int .i64 0) 8 rfl Try.underlying22 info3 rfl (by decide) (by omega) v186 y185 (l0.take (x3_1 : Int).toNat) _ _ _ (fun _ => True) (fun _ => False) rfl rfl ?aO ?aR (fun _ _ h => h) (fun _ h => h.elim) ?aF ?aB ?aS ?aL ?_; (case aR => first | (have h0_ := cB HR188.out HB.out; rw [show (l0.take (x3_1 : Int).toNat).length = x3_1.toNat from (by rw [List.length_take]; have h_ : (x3_1 : Int) ≤ (l0.length : Int) := zd; omega)] at h0_; exact h0_) | (rw [← show (l0.take (x3_1 : Int).toNat).length = x3_1.toNat from (by rw [List.length_take]; have h_ : (x3_1 : Int) ≤ (l0.length : Int) := zd; omega)]; repeat (first | exact (cB HR188.out HB.out) | (with_reducible refine cA ?_ _) | (with_reducible refine cN ?_ _) | (with_reducible refine cD ?_))) | (repeat (first | exact (cB HR188.out HB.out) | (with_reducible refine cA ?_ _) | (with_reducible refine cN ?_ _) | (with_reducible refine cD ?_)))); (case aB => exact (zB_ HB)); (case aF => exact (fun _ _ => trivial)); (case aO => exact (zR_ HO187)); (case aS => exact (bZ (zB_ HB))); (case aL => have := LMc20.out; have hlx_ := (show (l0.take (x3_1 : Int).toNat).length = x3_1.toNat from (by rw [List.length_take]; have h_ : (x3_1 : Int) ≤ (l0.length : Int) := zd; omega)); omega); intro v190 w25 ho hb hg hat; rw [← Ny189.out] at ho; replace HB := A0_ (hb); have HO191 := A0_ (ho); clear HO187 ho hb hg hat; have p192 : 0 ≤ (x4_2 : Int) := zd; have q192 : x4_2 < (l0.length : Int) := zd; obtain ⟨ad192, e192, hx192_0⟩ := tI HR0.out x4_2 p192 q192; obtain rfl : ad183 = ad192 := (by injection e192); try replace hx192_0 := (HB.out.cell (wL w _ hx192_0)).trans hx192_0; replace p192 := eq_true p192; replace q192 := eq_true q192) | ((with_reducible refine gB (b := .append) (xs := #[.tmp 48, .tmp 53]) rfl ?_); at_builtin; refine Kd.R_append (Kd.int .i64) (w0 := w) w.heap.size rfl (.tmp 48) (.tmp 53) 22 3 (.int .i64 0) 8 rfl Try.underlying22 info3 rfl (by decide) (by omega) v190 y189 (rd l0 x4_2) [.int .i64 (rd l0 x4_2)] (fun _ => True) (fun _ => False) rfl rfl ?aP (fun _ hk => hk.elim) ?aF ?aO ?aB ?aS ?aL ?_; (case aP => exact rfl); (case aB => exact (zB_ HB)); (case aF => exact (fun _ _ => trivial)); (case aO => exact (zR_ HO191)); (case aS => exact (bZ (zB_ HB))); (case aL => have := LMc21.out; omega); intro v194 w26 ho hb hg hat; rw [← Ny193.out] at ho; replace HB := A0_ (hb); have HO195 := A0_ (ho); clear HO191 ho hb hg hat)); try go_wp2_with (first | ((with_reducible refine gD (N := 43) rfl ?_); refine Kd.R_lit (Kd.int .i64) _ 3 ?hg (N := 43) ?hd (xs := ([] : List Int)) (inner := []) (ok := fun _ => True) (okp := fun _ => True) ?hr ?hp (fun _ hk => hk) trivial (Below.refl _ _) (Nat.le_refl _) (by simp) ?_; (case hd => rfl); (case hg => rfl); (case hr => first | (go_simp; done) | (go_simp; rfl)); (case hp => exact (Reps.none _ _)); intro v186 w22 ho23 hb hg_ hnew_; clear hg_ hnew_; (first | rw [← Ny185.out] at ho23 | (simp only [Int.reduceToNat] at ho23; rw [← Ny185.out] at ho23)); have n0_ := A0_ (rL ho23 (bZ (zB_ HB))); have n1_ := zB HB hb; clear HB; have HO187 := n0_; have HB := n1_; clear n0_ n1_ hb ho23; obtain ⟨i024, hi024, _, hsz24, _⟩ := info_parts info3; obtain ⟨hcut24, hA24, hC24⟩ := print_take_of (P := Try.prog) (Value.int .i64) 0 22 3 .i64 Try.underlying22 hi024 hsz24 (some ad183) c0 l0 x3_1 (zd) (zd) HC0.out; have HR188 := A0_ (Kd.C_of_reads (h1 := fun _ => rfl) (hA24 _ (Kd.reads_of_C HR0.out))); have HC188 := A0_ hC24; clear hA24 hC24 hi024 hsz24) | ((with_reducible refine gB (b := .append) (xs := #[.tmp 43, .tmp 46]) rfl ?_); at_builtin; refine Kd.R_append_rows (Kd.int .i64) (w0 := w) w.heap.size rfl (.tmp 43) (.tmp 46) 22 3 (.int .i64 0) 8 rfl Try.underlying22 info3 rfl (by decide) (by omega) v186 y185 (l0.take (x3_1 : Int).toNat) _ _ _ (fun _ => True) (fun _ => False) rfl rfl ?aO ?aR (fun _ _ h => h) (fun _ h => h.elim) ?aF ?aB ?aS ?aL ?_; (case aR => first | (have h0_ := cB HR188.out HB.out; rw [show (l0.take (x3_1 : Int).toNat).length = x3_1.toNat from (by rw [List.length_take]; have h_ : (x3_1 : Int) ≤ (l0.length : Int) := zd; omega)] at h0_; exact h0_) | (rw [← show (l0.take (x3_1 : Int).toNat).length = x3_1.toNat from (by rw [List.length_take]; have h_ : (x3_1 : Int) ≤ (l0.length : Int) := zd; omega)]; repeat (first | exact (cB HR188.out HB.out) | (with_reducible refine cA ?_ _) | (with_reducible refine cN ?_ _) | (with_reducible refine cD ?_))) | (repeat (first | exact (cB HR188.out HB.out) | (with_reducible refine cA ?_ _) | (with_reducible refine cN ?_ _) | (with_reducible refine cD ?_)))); (case aB => exact (zB_ HB)); (case aF => exact (fun _ _ => trivial)); (case aO => exact (zR_ HO187)); (case aS => exact (bZ (zB_ HB))); (case aL => have := LMc20.out; have hlx_ := (show (l0.take (x3_1 : Int).toNat).length = x3_1.toNat from (by rw [List.length_take]; have h_ : (x3_1 : Int) ≤ (l0.length : Int) := zd; omega)); omega); intro v190 w25 ho hb hg hat; rw [← Ny189.out] at ho; have n0_ := A0_ (hb); have n1_ := A0_ (ho); clear HB HO187; have HB := n0_; have HO191 := n1_; clear n0_ n1_ ho hb hg hat; have p192 : 0 ≤ (x4_2 : Int) := zd; have q192 : x4_2 < (l0.length : Int) := zd; obtain ⟨ad192, e192, hx192_0⟩ := tI HR0.out x4_2 p192 q192; obtain rfl : ad183 = ad192 := (by injection e192); try replace hx192_0 := (HB.out.cell (wL w _ hx192_0)).trans hx192_0; replace p192 := eq_true p192; replace q192 := eq_true q192) | ((with_reducible refine gB (b := .append) (xs := #[.tmp 48, .tmp 53]) rfl ?_); at_builtin; refine Kd.R_append (Kd.int .i64) (w0 := w) w.heap.size rfl (.tmp 48) (.tmp 53) 22 3 (.int .i64 0) 8 rfl Try.underlying22 info3 rfl (by decide) (by omega) v190 y189 (rd l0 x4_2) [.int .i64 (rd l0 x4_2)] (fun _ => True) (fun _ => False) rfl rfl ?aP (fun _ hk => hk.elim) ?aF ?aO ?aB ?aS ?aL ?_; (case aP => exact rfl); (case aB => exact (zB_ HB)); (case aF => exact (fun _ _ => trivial)); (case aO => exact (zR_ HO191)); (case aS => exact (bZ (zB_ HB))); (case aL => have := LMc21.out; omega); intro v194 w26 ho hb hg hat; rw [← Ny193.out] at ho; have n0_ := A0_ (hb); have n1_ := A0_ (ho); clear HB HO191; have HB := n0_; have HO195 := n1_; clear n0_ n1_ ho hb hg hat)))
            (try generalize Value.pointer (some (ad183.add (x4_2 : Int).toNat)) = pz_)
            (try generalize Value.pointer (some (ad184.add (x3_1 : Int).toNat)) = pz_)
            go_loopg [5, 6] k2 (fun kq v5 v6 w' => ∃ (x5_3 : List Int) (x6_3 : Int), v6 = .int .i64 x6_3 ∧ Aside0 (spec_l3Next.l2 kq l0 x3_1 x4_2 x5_3 x6_3 = some r) ∧ Aside0 (kq ≤ k2) ∧ Aside0 (Kd.R (Kd.int .i64) 3 w' w.heap.size (fun _ => True) v5 x5_3) ∧ Aside0 (Below w.heap.size w w'))
            case atStart => exact ⟨(y193), (wrap64 ((l0.length : Int) - 1)), zt, H', ⟨Nat.le_refl _⟩, ⟨zR_ HO195⟩, ⟨zB_ HB⟩⟩
            case round =>
             clear H'; (try clear c1); (try clear p1); (try clear q1); (try clear hx1); (try clear c2); (try clear p2); (try clear c3); (try clear c3b0); (try clear c4); (try clear c4b0); (try clear c5); (try clear c5b0); (try clear c6); (try clear p6); (try clear c7); (try clear c7b0); (try clear c8); (try clear c8b0); (try clear c9); (try clear c9b0); (try clear c10); (try clear c10b0); (try clear c13); (try clear c13b0); (try clear c14); (try clear c14b0); (try clear c15); (try clear c15b0); (try clear c16); (try clear c16b0); (try clear c17); (try clear c17b0); (try clear p17); (try clear q17); (try clear hx17); (try clear c18); (try clear c18b0); (try clear p18); (try clear q18); (try clear hx18); (try clear c19); (try clear c19b0); (try clear c19b1); (try clear p19); (try clear q19); (try clear hx19); (try clear c20); (try clear c21); (try clear hx178_0); (try clear hx179_0); (try clear hx183_0); (try clear hx184_0); (try clear hx192_0); (try clear p1); (try clear p178); (try clear p179); (try clear p183); (try clear p184); (try clear p192); (try clear p2); (try clear p6); (try clear q1); (try clear q178); (try clear q179); (try clear q183); (try clear q184); (try clear q192); obtain ⟨x5_3, x6_3, rfl, HA, HK3, HO_5, HB⟩ := hrel
             cases gk with
             | zero => exact absurd HA.out (by simp [spec_l3Next.l2])
             | succ k3 =>
              have H := HA.out; clear HA; simp only [spec_l3Next.l2] at H
              by_cases c27 : x6_3 > x3_1
              ·rw [if_pos c27] at H
               have c27b0 : decide (x3_1 < x6_3) = true := dT c27
               clear c27
               by_cases c28 : x6_3 = x4_2
               ·rw [if_pos c28] at H
                have c28b0 : (x6_3 == x4_2) = true := beq_iff_eq.mpr c28
                have c28b1 : (x6_3 != x4_2) = false := bne_eq_false_iff_eq.mpr c28
                clear c28
                by_cases c29 : 0 ≤ x3_1
                ·rw [if_pos c29] at H
                 have c29b0 := dT c29; clear c29
                 by_cases c30 : x3_1 < (l0.length : Int)
                 ·rw [if_pos c30] at H
                  have c30b0 := dT c30; clear c30
                  by_cases c31 : x5_3.length < 17592186044416
                  ·rw [if_pos c31] at H
                   have LMc31 := A0_ c31; clear c31
                   obtain ⟨y197, hy197⟩ : ∃ y_ : List Int, y_ = (x5_3 ++ [rd l0 x3_1]) := ⟨_, rfl⟩
                   replace H : (spec_l3Next.l2 k3 l0 x3_1 x4_2 y197 (wrap64 (x6_3 - 1))) = some r := zH hy197 H
                   have Ny197 := A0_ hy197; clear hy197; have H' := A0_ H; clear H
                   have p196 : 0 ≤ (x3_1 : Int) := zd
                   have q196 : x3_1 < (l0.length : Int) := zd
                   obtain ⟨ad196, e196, hx196_0⟩ := tI HR0.out x3_1 p196 q196
                   obtain rfl : ad183 = ad196 := (by injection e196)
                   try replace hx196_0 := (HB.out.cell (wL w _ hx196_0)).trans hx196_0
                   replace p196 := eq_true p196; replace q196 := eq_true q196
                   go_wp2_with (first | ((with_reducible refine gB (b := .append) (xs := #[.tmp 66, .tmp 71]) rfl ?_); at_builtin; refine Kd.R_append (Kd.int .i64) (w0 := w) w.heap.size rfl (.tmp 66) (.tmp 71) 22 3 (.int .i64 0) 8 rfl Try.underlying22 info3 rfl (by decide) (by omega) u5 x5_3 (rd l0 x3_1) [.int .i64 (rd l0 x3_1)] (fun _ => True) (fun _ => False) rfl rfl ?aP (fun _ hk => hk.elim) ?aF ?aO ?aB ?aS ?aL ?_; (case aP => exact rfl); (case aB => exact (zB_ HB)); (case aF => exact (fun _ _ => trivial)); (case aO => exact (zR_ HO_5)); (case aS => exact (bZ (zB_ HB))); (case aL => have := LMc31.out; omega); intro v198 w32 ho hb hg hat; rw [← Ny197.out] at ho; replace HB := A0_ (hb); have HO199 := A0_ (ho); clear HO_5 ho hb hg hat))
                   repeat (go_quiet (first | ((with_reducible refine gB (b := .append) (xs := #[.tmp 66, .tmp 71]) rfl ?_); at_builtin; refine Kd.R_append (Kd.int .i64) (w0 := w) w.heap.size rfl (.tmp 66) (.tmp 71) 22 3 (.int .i64 0) 8 rfl Try.underlying22 info3 rfl (by decide) (by omega) u5 x5_3 (rd l0 x3_1) [.int .i64 (rd l0 x3_1)] (fun _ => True) (fun _ => False) rfl rfl ?aP (fun _ hk => hk.elim) ?aF ?aO ?aB ?aS ?aL ?_; (case aP => exact rfl); (case aB => exact (zB_ HB)); (case aF => exact (fun _ _ => trivial)); (case aO => exact (zR_ HO_5)); (case aS => exact (bZ (zB_ HB))); (case aL => have := LMc31.out; omega); intro v198 w32 ho hb hg hat; rw [← Ny197.out] at ho; replace HB := A0_ (hb); have HO199 := A0_ (ho); clear HO_5 ho hb hg hat)); try go_wp2_with (first | ((with_reducible refine gB (b := .append) (xs := #[.tmp 66, .tmp 71]) rfl ?_); at_builtin; refine Kd.R_append (Kd.int .i64) (w0 := w) w.heap.size rfl (.tmp 66) (.tmp 71) 22 3 (.int .i64 0) 8 rfl Try.underlying22 info3 rfl (by decide) (by omega) u5 x5_3 (rd l0 x3_1) [.int .i64 (rd l0 x3_1)] (fun _ => True) (fun _ => False) rfl rfl ?aP (fun _ hk => hk.elim) ?aF ?aO ?aB ?aS ?aL ?_; (case aP => exact rfl); (case aB => exact (zB_ HB)); (case aF => exact (fun _ _ => trivial)); (case aO => exact (zR_ HO_5)); (case aS => exact (bZ (zB_ HB))); (case aL => have := LMc31.out; omega); intro v198 w32 ho hb hg hat; rw [← Ny197.out] at ho; have n0_ := A0_ (hb); have n1_ := A0_ (ho); clear HB HO_5; have HB := n0_; have HO199 := n1_; clear n0_ n1_ ho hb hg hat)))
                   go_roundg k3
                   case measure => have := HJ1.out; have := HK2.out; have := HK3.out; omega
                   case rel => exact ⟨(y197), (wrap64 (x6_3 - 1)), zt, H', ⟨by have := HJ1.out; have := HK2.out; have := HK3.out; omega⟩, ⟨zR_ HO199⟩, ⟨zB_ HB⟩⟩
                  rw [if_neg c31] at H
                  exact absurd H (by simp)
                 rw [if_neg c30] at H
                 exact absurd H (by simp)
                rw [if_neg c29] at H
                exact absurd H (by simp)
               rw [if_neg c28] at H
               have c28b0 : (x6_3 == x4_2) = false := beq_eq_false_iff_ne.mpr c28
               have c28b1 : (x6_3 != x4_2) = true := bne_iff_ne.mpr c28
               by_cases c33 : 0 ≤ x6_3
               ·rw [if_pos c33] at H
                have c33b0 := dT c33; clear c33
                by_cases c34 : x6_3 < (l0.length : Int)
                ·rw [if_pos c34] at H
                 have c34b0 := dT c34; clear c34
                 by_cases c35 : x5_3.length < 17592186044416
                 ·rw [if_pos c35] at H
                  have LMc35 := A0_ c35; clear c35
                  obtain ⟨y201, hy201⟩ : ∃ y_ : List Int, y_ = (x5_3 ++ [rd l0 x6_3]) := ⟨_, rfl⟩
                  replace H : (spec_l3Next.l2 k3 l0 x3_1 x4_2 y201 (wrap64 (x6_3 - 1))) = some r := zH hy201 H
                  have Ny201 := A0_ hy201; clear hy201; have H' := A0_ H; clear H
                  have p200 : 0 ≤ (x6_3 : Int) := zd
                  have q200 : x6_3 < (l0.length : Int) := zd
                  obtain ⟨ad200, e200, hx200_0⟩ := tI HR0.out x6_3 p200 q200
                  obtain rfl : ad183 = ad200 := (by injection e200)
                  try replace hx200_0 := (HB.out.cell (wL w _ hx200_0)).trans hx200_0
                  replace p200 := eq_true p200; replace q200 := eq_true q200
                  go_wp2_with (first | ((with_reducible refine gB (b := .append) (xs := #[.tmp 73, .tmp 78]) rfl ?_); at_builtin; refine Kd.R_append (Kd.int .i64) (w0 := w) w.heap.size rfl (.tmp 73) (.tmp 78) 22 3 (.int .i64 0) 8 rfl Try.underlying22 info3 rfl (by decide) (by omega) u5 x5_3 (rd l0 x6_3) [.int .i64 (rd l0 x6_3)] (fun _ => True) (fun _ => False) rfl rfl ?aP (fun _ hk => hk.elim) ?aF ?aO ?aB ?aS ?aL ?_; (case aP => exact rfl); (case aB => exact (zB_ HB)); (case aF => exact (fun _ _ => trivial)); (case aO => exact (zR_ HO_5)); (case aS => exact (bZ (zB_ HB))); (case aL => have := LMc35.out; omega); intro v202 w36 ho hb hg hat; rw [← Ny201.out] at ho; replace HB := A0_ (hb); have HO203 := A0_ (ho); clear HO_5 ho hb hg hat))
                  repeat (go_quiet (first | ((with_reducible refine gB (b := .append) (xs := #[.tmp 73, .tmp 78]) rfl ?_); at_builtin; refine Kd.R_append (Kd.int .i64) (w0 := w) w.heap.size rfl (.tmp 73) (.tmp 78) 22 3 (.int .i64 0) 8 rfl Try.underlying22 info3 rfl (by decide) (by omega) u5 x5_3 (rd l0 x6_3) [.int .i64 (rd l0 x6_3)] (fun _ => True) (fun _ => False) rfl rfl ?aP (fun _ hk => hk.elim) ?aF ?aO ?aB ?aS ?aL ?_; (case aP => exact rfl); (case aB => exact (zB_ HB)); (case aF => exact (fun _ _ => trivial)); (case aO => exact (zR_ HO_5)); (case aS => exact (bZ (zB_ HB))); (case aL => have := LMc35.out; omega); intro v202 w36 ho hb hg hat; rw [← Ny201.out] at ho; replace HB := A0_ (hb); have HO203 := A0_ (ho); clear HO_5 ho hb hg hat)); try go_wp2_with (first | ((with_reducible refine gB (b := .append) (xs := #[.tmp 73, .tmp 78]) rfl ?_); at_builtin; refine Kd.R_append (Kd.int .i64) (w0 := w) w.heap.size rfl (.tmp 73) (.tmp 78) 22 3 (.int .i64 0) 8 rfl Try.underlying22 info3 rfl (by decide) (by omega) u5 x5_3 (rd l0 x6_3) [.int .i64 (rd l0 x6_3)] (fun _ => True) (fun _ => False) rfl rfl ?aP (fun _ hk => hk.elim) ?aF ?aO ?aB ?aS ?aL ?_; (case aP => exact rfl); (case aB => exact (zB_ HB)); (case aF => exact (fun _ _ => trivial)); (case aO => exact (zR_ HO_5)); (case aS => exact (bZ (zB_ HB))); (case aL => have := LMc35.out; omega); intro v202 w36 ho hb hg hat; rw [← Ny201.out] at ho; have n0_ := A0_ (hb); have n1_ := A0_ (ho); clear HB HO_5; have HB := n0_; have HO203 := n1_; clear n0_ n1_ ho hb hg hat)))
                  go_roundg k3
                  case measure => have := HJ1.out; have := HK2.out; have := HK3.out; omega
                  case rel => exact ⟨(y201), (wrap64 (x6_3 - 1)), zt, H', ⟨by have := HJ1.out; have := HK2.out; have := HK3.out; omega⟩, ⟨zR_ HO203⟩, ⟨zB_ HB⟩⟩
                 rw [if_neg c35] at H
                 exact absurd H (by simp)
                rw [if_neg c34] at H
                exact absurd H (by simp)
               rw [if_neg c33] at H
               exact absurd H (by simp)
              rw [if_neg c27] at H
              have c27b0 : decide (x3_1 < x6_3) = false := dF c27
              clear c27; obtain rfl := sI H
              go_wp2
              repeat (go_quiet (fail); try go_wp2)
              go_ret
              exact ⟨_, by first | rfl | (simp [*] <;> rfl), zR_ HO_5, zB_ HB⟩
           rw [if_neg c21] at H
           exact absurd H (by simp)
          rw [if_neg c20] at H
          exact absurd H (by simp)
         rw [if_neg c19] at H
         exact absurd H (by simp)
        rw [if_neg c16] at H
        exact absurd H (by simp)
       rw [if_neg c15] at H
       exact absurd H (by simp)
      rw [if_neg c14] at H
      exact absurd H (by simp)
     rw [if_neg c13] at H
     exact absurd H (by simp)

end Go.Proofs.Ytmcgkckdnelcdaa.PFnExactCoverDeck
