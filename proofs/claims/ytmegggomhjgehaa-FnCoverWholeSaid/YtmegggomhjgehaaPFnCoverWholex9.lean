-- Made by a program of this session (wip/tools) out of the loaded program; not trusted: Lean checks it.
import Derived.Test.YtmegggomhjgehaaPFnCoverWholex0
import Derived.Test.YtmegggomhjgehaaPFnCoverWholex1
import Derived.Test.YtmegggomhjgehaaPFnCoverWholex2
import Derived.Test.YtmegggomhjgehaaPFnCoverWholex6
import Derived.Test.YtmegggomhjgehaaPFnCoverWholex8
-- packed
namespace Go.Proofs.Ytmegggomhjgehaa.PFnCoverWhole
open Go.RowKit Go.Proofs.YtmegggomhjgehaaW.PrintWords Go.Proofs.YtmegggomhjgehaaW.PrintLast Go.Proofs.YtmegggomhjgehaaW.PrintMore
attribute [local go_sem] max2_int min2_int max_two min_two max_three min_three max_four min_four   -- for this text's walks alone
set_option linter.unusedVariables false
set_option linter.unusedSimpArgs false

/-! ### impl_CoverWhole: function 12 -/
def impl_CoverWhole.f (k : Nat) (l0_0 : List Int) (l0_1 : List Int) (a1 : Int) (l2 : List (List Int)) : Option (Bool) := (impl_VoltageValid.f k l0_0 l0_1 a1 l2).bind fun t339 => (if t339 = true then ((impl_cover.f k l0_0 l0_1 a1 l2).bind fun bt340 => ((impl_MapValid.f k bt340.1 bt340.2).bind fun t346 => (some t346))) else (some false))
set_option maxHeartbeats 8000000 in
set_option maxRecDepth 100000 in
theorem impl_CoverWhole.calls (k : Nat) (A0_0 : Option Addr) (c0_0 : Nat) (l0_0 : List Int) (A0_1 : Option Addr) (c0_1 : Nat) (l0_1 : List Int) (a1 : Int) (A2 : Option Addr) (c2 : Nat) (l2 : List (List Int)) (r : Bool) (w : World) (hr0_0 : Kd.C (Kd.int .i64) w A0_0 l0_0.length l0_0) (hc0_0 : l0_0.length ≤ c0_0) (hr0_1 : Kd.C (Kd.int .i64) w A0_1 l0_1.length l0_1) (hc0_1 : l0_1.length ≤ c0_1) (hr2 : Kd.C (Kd.slice 3 (Kd.int .i64)) w A2 l2.length l2) (hc2 : l2.length ≤ c2) (h : impl_CoverWhole.f k l0_0 l0_1 a1 l2 = some r) :
    Calls Try.prog 12 #[.agg #[.slice A0_0 l0_0.length c0_0, .slice A0_1 l0_1.length c0_1], .int .i64 a1, .slice A2 l2.length c2] w fun e w' => e = .returned (.bool r) ∧ Below w.heap.size w w' := by
 have hu25 := Try.underlying25; have HR0_0 := A0_ hr0_0; have HC0_0 := A0_ hc0_0; clear hr0_0 hc0_0; have HR0_1 := A0_ hr0_1; have HC0_1 := A0_ hc0_1; clear hr0_1 hc0_1; have HR2 := A0_ hr2; have HC2 := A0_ hc2; clear hr2 hc2
 have HB := A0_ (Below.refl w.heap.size w)
 have H : ((impl_VoltageValid.f k l0_0 l0_1 a1 l2).bind fun t339 => (if t339 = true then ((impl_cover.f k l0_0 l0_1 a1 l2).bind fun bt340 => ((impl_MapValid.f k bt340.1 bt340.2).bind fun t346 => (some t346))) else (some false))) = some r := h
 clear h; obtain ⟨t339, A4, H⟩ := zbind H
 by_cases c5 : t339 = true
 ·subst c5
  rw [if_pos rfl] at H; obtain ⟨⟨t340, t343⟩, A6, H⟩ := zbind H; dsimp only at H; obtain ⟨t346, A7, H⟩ := zbind H; obtain rfl := sI H
  go_enter Try.func12, Try.ntmps12
  go_wp2_with (first | ((with_reducible refine gD (N := 3) rfl ?_); refine zX (N := 3) (cs := #[.slice A0_0 l0_0.length c0_0, .slice A0_1 l0_1.length c0_1]) (t := 25) ?_; intro gb338 hg w8 hbox hb; have BK338 := A0_ (hbox); have GW338 := zG hg HB; have GE338 := zG hg HB; replace HB := zB HB hb; clear hb hbox hg; have hcz9_0 := zc0 BK338; have hcz9_1 := zc1 BK338; have hfz9_0 := kF BK338.out 0; have hfz9_1 := kF BK338.out 1) | ((with_reducible refine gC (f := 53) rfl ?_); refine zJ (some 10) Try.func53 #[.agg #[.slice A0_0 l0_0.length c0_0, .slice A0_1 l0_1.length c0_1], .int .i64 a1, .slice A2 l2.length c2] ?_; (with_reducible refine (impl_VoltageValid.calls k _ _ l0_0 _ _ l0_1 a1 _ _ l2 true _ ?side1 ?side2 ?side3 ?side4 ?side5 ?side6 A4.out).mono ?_); (case side1 => exact zC HR0_0 HB); (case side2 => exact HC0_0.out); (case side3 => exact zC HR0_1 HB); (case side4 => exact HC0_1.out); (case side5 => exact zC HR2 HB); (case side6 => exact HC2.out); rintro e w10 ⟨rfl, hb⟩; refine ⟨_, rfl, ?_⟩; replace BK338 := zK BK338 hb; replace HB := zB HB hb; (try clear hb); have hcz11_0 := zc0 BK338; have hcz11_1 := zc1 BK338; have hfz11_0 := kF BK338.out 0; have hfz11_1 := kF BK338.out 1) | (go_at_call 55; (with_reducible refine (impl_cover.calls k _ _ l0_0 _ _ l0_1 a1 _ _ l2 t340 t343 _ ?side1 ?side2 ?side3 ?side4 ?side5 ?side6 A6.out).mono ?_); (case side1 => exact zC HR0_0 HB); (case side2 => exact HC0_0.out); (case side3 => exact zC HR0_1 HB); (case side4 => exact HC0_1.out); (case side5 => exact zC HR2 HB); (case side6 => exact HC2.out); rintro e w12 ⟨v341, v344, rfl, ho0, ho1, hb⟩; have HO342 := A0_ (rL ho0 (bZ (zB_ HB))); have HO345 := A0_ (rL ho1 (bZ (zB_ HB))); replace BK338 := zK BK338 hb; replace HB := zB HB hb; (try clear hb); (try clear ho0); (try clear ho1); obtain ⟨Ao13, co13, eo13⟩ := rS HO342.out; subst eo13; obtain ⟨Ao14, co14, eo14⟩ := rS HO345.out; subst eo14) | (go_at_call 54; (with_reducible refine (impl_MapValid.calls k (fun k_ => some k_ = (.slice Ao13 t340.length co13 : Value).ownBlock) _ _ t340 (fun k_ => some k_ = (.slice Ao14 t343.length co14 : Value).ownBlock) _ _ t343 t346 _ ?side1 ?side2 A7.out).mono ?_); (case side1 => exact Kd.R_V (Kd.R_tight rfl (rY (HO342.out) BK338.out (by decide)))); (case side2 => exact Kd.R_V (Kd.R_tight rfl (rY (HO345.out) BK338.out (by decide)))); rintro e w15 ⟨rfl, hb⟩; replace HO342 := zR HO342 hb; replace HO345 := zR HO345 hb; replace BK338 := zK BK338 hb; replace HB := zB HB hb; (try clear hb)))
  go_ret
  exact ⟨by first | rfl | (simp [*] <;> rfl), zB_ HB⟩
 replace c5 := Bool.eq_false_iff.mpr c5; subst c5
 rw [if_neg (show ¬ (false = true) by decide)] at H
 obtain rfl := sI H
 go_enter Try.func12, Try.ntmps12
 go_wp2_with (first | ((with_reducible refine gD (N := 3) rfl ?_); refine zX (N := 3) (cs := #[.slice A0_0 l0_0.length c0_0, .slice A0_1 l0_1.length c0_1]) (t := 25) ?_; intro gb338 hg w16 hbox hb; have BK338 := A0_ (hbox); have GW338 := zG hg HB; have GE338 := zG hg HB; replace HB := zB HB hb; clear hb hbox hg; have hcz17_0 := zc0 BK338; have hcz17_1 := zc1 BK338; have hfz17_0 := kF BK338.out 0; have hfz17_1 := kF BK338.out 1) | ((with_reducible refine gC (f := 53) rfl ?_); refine zJ (some 10) Try.func53 #[.agg #[.slice A0_0 l0_0.length c0_0, .slice A0_1 l0_1.length c0_1], .int .i64 a1, .slice A2 l2.length c2] ?_; (with_reducible refine (impl_VoltageValid.calls k _ _ l0_0 _ _ l0_1 a1 _ _ l2 false _ ?side1 ?side2 ?side3 ?side4 ?side5 ?side6 A4.out).mono ?_); (case side1 => exact zC HR0_0 HB); (case side2 => exact HC0_0.out); (case side3 => exact zC HR0_1 HB); (case side4 => exact HC0_1.out); (case side5 => exact zC HR2 HB); (case side6 => exact HC2.out); rintro e w18 ⟨rfl, hb⟩; refine ⟨_, rfl, ?_⟩; replace BK338 := zK BK338 hb; replace HB := zB HB hb; (try clear hb)))
 go_ret
 exact ⟨by first | rfl | (simp [*] <;> rfl), zB_ HB⟩

/-! ### spec_VoltageValid: function 56 -/
mutual
def spec_VoltageValid.j0 : Nat → Int → List (List Int) → Bool → Option (Bool)
  | 0, _, _, _ => none
  | k + 1, x1, x2, x32 => if x32 = true then (some false) else (spec_VoltageValid.l0 k x1 x2 0)
def spec_VoltageValid.l0 : Nat → Int → List (List Int) → Int → Option (Bool)
  | 0, _, _, _ => none
  | k + 1, x1, x2, x7 => if x7 < (x2.length : Int) then (if 0 ≤ x7 then ((spec_PermValid.f k (rd_L2 x2 x7)).bind fun t351 => (if t351 = true then (if ((rd_L2 x2 x7).length : Int) = x1 then (spec_VoltageValid.l0 k x1 x2 (wrap64 (x7 + 1))) else (some false)) else (some false))) else (none)) else (some true)
end
def spec_VoltageValid.f (k : Nat) (l0_0 : List Int) (l0_1 : List Int) (a1 : Int) (l2 : List (List Int)) : Option (Bool) := (spec_MapValid.f k l0_0 l0_1).bind fun t348 => (if t348 = true then ((spec_l6In.f a1 1 6).bind fun t349 => (if t349 = true then (if (wrap64 (a1 * (l0_0.length : Int))) > 12 then (spec_VoltageValid.j0 k a1 l2 true) else (spec_VoltageValid.j0 k a1 l2 ((l2.length : Int) != (wrap64 ((l0_1.length : Int) / 2))))) else (spec_VoltageValid.j0 k a1 l2 true))) else (spec_VoltageValid.j0 k a1 l2 true))
set_option maxHeartbeats 8000000 in
set_option maxRecDepth 100000 in
theorem spec_VoltageValid.calls (k : Nat) (A0_0 : Option Addr) (c0_0 : Nat) (l0_0 : List Int) (A0_1 : Option Addr) (c0_1 : Nat) (l0_1 : List Int) (a1 : Int) (A2 : Option Addr) (c2 : Nat) (l2 : List (List Int)) (r : Bool) (w : World) (hr0_0 : Kd.C (Kd.int .i64) w A0_0 l0_0.length l0_0) (hc0_0 : l0_0.length ≤ c0_0) (hr0_1 : Kd.C (Kd.int .i64) w A0_1 l0_1.length l0_1) (hc0_1 : l0_1.length ≤ c0_1) (hr2 : Kd.C (Kd.slice 3 (Kd.int .i64)) w A2 l2.length l2) (hc2 : l2.length ≤ c2) (h : spec_VoltageValid.f k l0_0 l0_1 a1 l2 = some r) :
    Calls Try.prog 56 #[.agg #[.slice A0_0 l0_0.length c0_0, .slice A0_1 l0_1.length c0_1], .int .i64 a1, .slice A2 l2.length c2] w fun e w' => e = .returned (.bool r) ∧ Below w.heap.size w w' := by
 have hu25 := Try.underlying25; have HR0_0 := A0_ hr0_0; have HC0_0 := A0_ hc0_0; clear hr0_0 hc0_0; have HR0_1 := A0_ hr0_1; have HC0_1 := A0_ hc0_1; clear hr0_1 hc0_1; have HR2 := A0_ hr2; have HC2 := A0_ hc2; clear hr2 hc2
 have HB := A0_ (Below.refl w.heap.size w)
 have H : ((spec_MapValid.f k l0_0 l0_1).bind fun t348 => (if t348 = true then ((spec_l6In.f a1 1 6).bind fun t349 => (if t349 = true then (if (wrap64 (a1 * (l0_0.length : Int))) > 12 then (spec_VoltageValid.j0 k a1 l2 true) else (spec_VoltageValid.j0 k a1 l2 ((l2.length : Int) != (wrap64 ((l0_1.length : Int) / 2))))) else (spec_VoltageValid.j0 k a1 l2 true))) else (spec_VoltageValid.j0 k a1 l2 true))) = some r := h
 clear h; have HC4 := A0_ H; clear H
 go_enter Try.func56, Try.ntmps56
 go_upto_region 1 with (first | ((with_reducible refine gD (N := 3) rfl ?_); refine zX (N := 3) (cs := #[.slice A0_0 l0_0.length c0_0, .slice A0_1 l0_1.length c0_1]) (t := 25) ?_; intro gb347 hg w5 hbox hb; have BK347 := A0_ (hbox); have GW347 := zG hg HB; have GE347 := zG hg HB; replace HB := zB HB hb; clear hb hbox hg))
 (try simp only [Act.put, List.setIfInBounds_toArray, List.set_cons_zero, List.set_cons_succ])
 go_cut [32] (fun v32 wc => ∃ (kq : Nat) (x32_3 : Bool), v32 = .bool x32_3 ∧ Aside0 (spec_VoltageValid.j0 kq a1 l2 x32_3 = some r) ∧ Aside0 (kq ≤ k) ∧ Aside0 (wc.heap[gb347]? = some (.cells #[(.slice A0_0 l0_0.length c0_0), (.slice A0_1 l0_1.length c0_1)] 25 (0, 0))) ∧ Aside0 (Below w.heap.size w wc))
 case first =>
  have H := HC4.out; clear HC4; obtain ⟨t348, A6, H⟩ := zbind H
  by_cases c7 : t348 = true
  ·subst c7
   rw [if_pos rfl] at H; obtain ⟨t349, A8, H⟩ := zbind H
   by_cases c9 : t349 = true
   ·subst c9
    rw [if_pos rfl] at H
    by_cases c10 : (wrap64 (a1 * (l0_0.length : Int))) > 12
    ·rw [if_pos c10] at H
     have c10b0 : decide (12 < (wrap64 (a1 * (l0_0.length : Int)))) = true := dT c10
     clear c10
     (first | rw [c10b0] | (simp only [i64_w, i32_w]; rw [c10b0]) | skip)
     have H' := A0_ H; clear H; have hcz11_0 := zc0 BK347; have hcz11_1 := zc1 BK347; have hfz11_0 := kF BK347.out 0; have hfz11_1 := kF BK347.out 1
     go_wp2_with (first | ((with_reducible refine gC (f := 57) rfl ?_); refine zJ (some 9) Try.func57 #[.agg #[.slice A0_0 l0_0.length c0_0, .slice A0_1 l0_1.length c0_1]] ?_; (with_reducible refine (spec_MapValid.calls k _ _ l0_0 _ _ l0_1 true _ ?side1 ?side2 ?side3 ?side4 A6.out).mono ?_); (case side1 => exact zC HR0_0 HB); (case side2 => exact HC0_0.out); (case side3 => exact zC HR0_1 HB); (case side4 => exact HC0_1.out); rintro e w12 ⟨rfl, hb⟩; refine ⟨_, rfl, ?_⟩; replace BK347 := zK BK347 hb; replace HB := zB HB hb; (try clear hb)) | (go_at_call 101; (with_reducible refine (spec_l6In.calls a1 1 6 true _ A8.out).mono ?_); rintro e w' ⟨rfl, ⟨nd, rfl⟩⟩; have hcz13_0 := zc0 BK347; have hcz13_1 := zc1 BK347; have hfz13_0 := kF BK347.out 0; have hfz13_1 := kF BK347.out 1))
     go_meet
     case rel => exact ⟨_, (true), zt, H', zo, ⟨zK_ BK347⟩, ⟨zB_ HB⟩⟩
    rw [if_neg c10] at H
    have c10b0 : decide (12 < (wrap64 (a1 * (l0_0.length : Int)))) = false := dF c10
    clear c10
    (first | rw [c10b0] | (simp only [i64_w, i32_w]; rw [c10b0]) | skip)
    have H' := A0_ H; clear H; have hcz14_0 := zc0 BK347; have hcz14_1 := zc1 BK347; have hfz14_0 := kF BK347.out 0; have hfz14_1 := kF BK347.out 1
    go_wp2_with (first | ((with_reducible refine gC (f := 57) rfl ?_); refine zJ (some 9) Try.func57 #[.agg #[.slice A0_0 l0_0.length c0_0, .slice A0_1 l0_1.length c0_1]] ?_; (with_reducible refine (spec_MapValid.calls k _ _ l0_0 _ _ l0_1 true _ ?side1 ?side2 ?side3 ?side4 A6.out).mono ?_); (case side1 => exact zC HR0_0 HB); (case side2 => exact HC0_0.out); (case side3 => exact zC HR0_1 HB); (case side4 => exact HC0_1.out); rintro e w15 ⟨rfl, hb⟩; refine ⟨_, rfl, ?_⟩; replace BK347 := zK BK347 hb; replace HB := zB HB hb; (try clear hb)) | (go_at_call 101; (with_reducible refine (spec_l6In.calls a1 1 6 true _ A8.out).mono ?_); rintro e w' ⟨rfl, ⟨nd, rfl⟩⟩; have hcz16_0 := zc0 BK347; have hcz16_1 := zc1 BK347; have hfz16_0 := kF BK347.out 0; have hfz16_1 := kF BK347.out 1))
    go_meet
    case rel => exact ⟨_, (((l2.length : Int) != (wrap64 ((l0_1.length : Int) / 2)))), zt, H', zo, ⟨zK_ BK347⟩, ⟨zB_ HB⟩⟩
   replace c9 := Bool.eq_false_iff.mpr c9; subst c9
   rw [if_neg (show ¬ (false = true) by decide)] at H
   have H' := A0_ H; clear H; have hcz17_0 := zc0 BK347; have hcz17_1 := zc1 BK347; have hfz17_0 := kF BK347.out 0; have hfz17_1 := kF BK347.out 1
   go_wp2_with (first | ((with_reducible refine gC (f := 57) rfl ?_); refine zJ (some 9) Try.func57 #[.agg #[.slice A0_0 l0_0.length c0_0, .slice A0_1 l0_1.length c0_1]] ?_; (with_reducible refine (spec_MapValid.calls k _ _ l0_0 _ _ l0_1 true _ ?side1 ?side2 ?side3 ?side4 A6.out).mono ?_); (case side1 => exact zC HR0_0 HB); (case side2 => exact HC0_0.out); (case side3 => exact zC HR0_1 HB); (case side4 => exact HC0_1.out); rintro e w18 ⟨rfl, hb⟩; refine ⟨_, rfl, ?_⟩; replace BK347 := zK BK347 hb; replace HB := zB HB hb; (try clear hb)) | (go_at_call 101; (with_reducible refine (spec_l6In.calls a1 1 6 false _ A8.out).mono ?_); rintro e w' ⟨rfl, ⟨nd, rfl⟩⟩))
   go_meet
   case rel => exact ⟨_, (true), zt, H', zo, ⟨zK_ BK347⟩, ⟨zB_ HB⟩⟩
  replace c7 := Bool.eq_false_iff.mpr c7; subst c7
  rw [if_neg (show ¬ (false = true) by decide)] at H
  have H' := A0_ H; clear H; have hcz19_0 := zc0 BK347; have hcz19_1 := zc1 BK347; have hfz19_0 := kF BK347.out 0; have hfz19_1 := kF BK347.out 1
  go_wp2_with (first | ((with_reducible refine gC (f := 57) rfl ?_); refine zJ (some 9) Try.func57 #[.agg #[.slice A0_0 l0_0.length c0_0, .slice A0_1 l0_1.length c0_1]] ?_; (with_reducible refine (spec_MapValid.calls k _ _ l0_0 _ _ l0_1 false _ ?side1 ?side2 ?side3 ?side4 A6.out).mono ?_); (case side1 => exact zC HR0_0 HB); (case side2 => exact HC0_0.out); (case side3 => exact zC HR0_1 HB); (case side4 => exact HC0_1.out); rintro e w20 ⟨rfl, hb⟩; refine ⟨_, rfl, ?_⟩; replace BK347 := zK BK347 hb; replace HB := zB HB hb; (try clear hb)))
  go_meet
  case rel => exact ⟨_, (true), zt, H', zo, ⟨zK_ BK347⟩, ⟨zB_ HB⟩⟩
 case rest =>
  clear HC4; (try clear c1); (try clear c2); (try clear p2); (try clear c5); (try clear p6); (try clear c7); (try clear c9); (try clear c10); (try clear c10b0); (try clear hcz11_0); (try clear hcz11_1); (try clear hcz13_0); (try clear hcz13_1); (try clear hcz14_0); (try clear hcz14_1); (try clear hcz16_0); (try clear hcz16_1); (try clear hcz17_0); (try clear hcz17_1); (try clear hcz19_0); (try clear hcz19_1); (try clear hfz11_0); (try clear hfz11_1); (try clear hfz13_0); (try clear hfz13_1); (try clear hfz14_0); (try clear hfz14_1); (try clear hfz16_0); (try clear hfz16_1); (try clear hfz17_0); (try clear hfz17_1); (try clear hfz19_0); (try clear hfz19_1); obtain ⟨kq, x32_3, rfl, HA, HJ3, BK347, HB⟩ := hcut
  cases kq with
  | zero => exact absurd HA.out (by simp [spec_VoltageValid.j0])
  | succ kj3 =>
   have H := HA.out; clear HA; simp only [spec_VoltageValid.j0] at H
   by_cases c21 : x32_3 = true
   ·subst c21
    rw [if_pos rfl] at H; obtain rfl := sI H
    go_wp2
    go_ret
    exact ⟨by first | rfl | (simp [*] <;> rfl), zB_ HB⟩
   replace c21 := Bool.eq_false_iff.mpr c21; subst c21
   rw [if_neg (show ¬ (false = true) by decide)] at H
   have H' := A0_ H; clear H
   go_wp2
   go_loopg [7] kj3 (fun kq v7 w' => ∃ (x7_2 : Int), v7 = .int .i64 x7_2 ∧ Aside0 (spec_VoltageValid.l0 kq a1 l2 x7_2 = some r) ∧ Aside0 (kq ≤ kj3) ∧ Aside0 (w'.heap[gb347]? = some (.cells #[(.slice A0_0 l0_0.length c0_0), (.slice A0_1 l0_1.length c0_1)] 25 (0, 0))) ∧ Aside0 (Below w.heap.size w w'))
   case atStart => exact ⟨(0), zt, H', ⟨Nat.le_refl _⟩, ⟨zK_ BK347⟩, ⟨zB_ HB⟩⟩
   case round =>
    clear H'; (try clear c1); (try clear c2); (try clear p2); (try clear c5); (try clear p6); (try clear c7); (try clear c9); (try clear c10); (try clear c10b0); (try clear c21); (try clear hcz11_0); (try clear hcz11_1); (try clear hcz13_0); (try clear hcz13_1); (try clear hcz14_0); (try clear hcz14_1); (try clear hcz16_0); (try clear hcz16_1); (try clear hcz17_0); (try clear hcz17_1); (try clear hcz19_0); (try clear hcz19_1); (try clear hfz11_0); (try clear hfz11_1); (try clear hfz13_0); (try clear hfz13_1); (try clear hfz14_0); (try clear hfz14_1); (try clear hfz16_0); (try clear hfz16_1); (try clear hfz17_0); (try clear hfz17_1); (try clear hfz19_0); (try clear hfz19_1); (try clear p2); (try clear p6); obtain ⟨x7_2, rfl, HA, HK2, BK347, HB⟩ := hrel
    cases gk with
    | zero => exact absurd HA.out (by simp [spec_VoltageValid.l0])
    | succ k2 =>
     have H := HA.out; clear HA; simp only [spec_VoltageValid.l0] at H
     by_cases c22 : x7_2 < (l2.length : Int)
     ·rw [if_pos c22] at H
      have c22b0 := dT c22; clear c22
      by_cases c23 : 0 ≤ x7_2
      ·rw [if_pos c23] at H
       have c23b0 := dT c23; clear c23; obtain ⟨t351, A24, H⟩ := zbind H
       by_cases c25 : t351 = true
       ·subst c25
        rw [if_pos rfl] at H
        by_cases c26 : ((rd_L2 l2 x7_2).length : Int) = a1
        ·rw [if_pos c26] at H
         have c26b0 : (((rd_L2 l2 x7_2).length : Int) == a1) = true := beq_iff_eq.mpr c26
         have c26b1 : (((rd_L2 l2 x7_2).length : Int) != a1) = false := bne_eq_false_iff_eq.mpr c26
         clear c26; have H' := A0_ H; clear H
         have p350 : 0 ≤ (x7_2 : Int) := zd
         have q350 : x7_2 < (l2.length : Int) := zd
         obtain ⟨ad350, A350_0, c350_0, e350, hx350_0, hl350_0, hi350_0⟩ := at_L2 HR2.out x7_2 p350 q350
         cases e350
         try replace hx350_0 := (HB.out.cell (wL w _ hx350_0)).trans hx350_0
         have HR350_0 := A0_ hi350_0; have HC350_0 := A0_ hl350_0; clear hi350_0 hl350_0; replace p350 := eq_true p350; replace q350 := eq_true q350
         go_wp2_with (first | ((with_reducible refine gC (f := 89) rfl ?_); refine zJ (some 43) Try.func89 #[.slice A350_0 (rd_L2 l2 x7_2).length c350_0] ?_; (with_reducible refine (spec_PermValid.calls k2 _ _ (rd_L2 l2 x7_2) true _ ?side1 ?side2 A24.out).mono ?_); (case side1 => exact zC HR350_0 HB); (case side2 => exact HC350_0.out); rintro e w' ⟨rfl, ⟨nd, rfl⟩⟩; refine ⟨_, rfl, ?_⟩; have p352 : 0 ≤ (x7_2 : Int) := zd; have q352 : x7_2 < (l2.length : Int) := zd; obtain ⟨ad352, A352_0, c352_0, e352, hx352_0, hl352_0, hi352_0⟩ := at_L2 HR2.out x7_2 p352 q352; obtain rfl : ad350 = ad352 := (by injection e352); try replace hx352_0 := (HB.out.cell (wL w _ hx352_0)).trans hx352_0; have HR352_0 := A0_ hi352_0; have HC352_0 := A0_ hl352_0; clear hi352_0 hl352_0; replace p352 := eq_true p352; replace q352 := eq_true q352; have ea_ := sI (hx350_0.symm.trans hx352_0); injection ea_ with ea_ en_ ec_; subst ea_; subst ec_; clear en_))
         go_roundg k2
         case measure => have := HJ3.out; have := HK2.out; omega
         case rel => exact ⟨(wrap64 (x7_2 + 1)), zt, H', ⟨by have := HJ3.out; have := HK2.out; omega⟩, ⟨zK_ BK347⟩, ⟨zB_ HB⟩⟩
        rw [if_neg c26] at H
        have c26b0 : (((rd_L2 l2 x7_2).length : Int) == a1) = false := beq_eq_false_iff_ne.mpr c26
        have c26b1 : (((rd_L2 l2 x7_2).length : Int) != a1) = true := bne_iff_ne.mpr c26
        obtain rfl := sI H
        have p350 : 0 ≤ (x7_2 : Int) := zd
        have q350 : x7_2 < (l2.length : Int) := zd
        obtain ⟨ad350, A350_0, c350_0, e350, hx350_0, hl350_0, hi350_0⟩ := at_L2 HR2.out x7_2 p350 q350
        cases e350
        try replace hx350_0 := (HB.out.cell (wL w _ hx350_0)).trans hx350_0
        have HR350_0 := A0_ hi350_0; have HC350_0 := A0_ hl350_0; clear hi350_0 hl350_0; replace p350 := eq_true p350; replace q350 := eq_true q350
        go_wp2_with (first | ((with_reducible refine gC (f := 89) rfl ?_); refine zJ (some 43) Try.func89 #[.slice A350_0 (rd_L2 l2 x7_2).length c350_0] ?_; (with_reducible refine (spec_PermValid.calls k2 _ _ (rd_L2 l2 x7_2) true _ ?side1 ?side2 A24.out).mono ?_); (case side1 => exact zC HR350_0 HB); (case side2 => exact HC350_0.out); rintro e w' ⟨rfl, ⟨nd, rfl⟩⟩; refine ⟨_, rfl, ?_⟩; have p352 : 0 ≤ (x7_2 : Int) := zd; have q352 : x7_2 < (l2.length : Int) := zd; obtain ⟨ad352, A352_0, c352_0, e352, hx352_0, hl352_0, hi352_0⟩ := at_L2 HR2.out x7_2 p352 q352; obtain rfl : ad350 = ad352 := (by injection e352); try replace hx352_0 := (HB.out.cell (wL w _ hx352_0)).trans hx352_0; have HR352_0 := A0_ hi352_0; have HC352_0 := A0_ hl352_0; clear hi352_0 hl352_0; replace p352 := eq_true p352; replace q352 := eq_true q352; have ea_ := sI (hx350_0.symm.trans hx352_0); injection ea_ with ea_ en_ ec_; subst ea_; subst ec_; clear en_))
        go_ret
        exact ⟨by first | rfl | (simp [*] <;> rfl), zB_ HB⟩
       replace c25 := Bool.eq_false_iff.mpr c25; subst c25
       rw [if_neg (show ¬ (false = true) by decide)] at H
       obtain rfl := sI H
       have p350 : 0 ≤ (x7_2 : Int) := zd
       have q350 : x7_2 < (l2.length : Int) := zd
       obtain ⟨ad350, A350_0, c350_0, e350, hx350_0, hl350_0, hi350_0⟩ := at_L2 HR2.out x7_2 p350 q350
       cases e350
       try replace hx350_0 := (HB.out.cell (wL w _ hx350_0)).trans hx350_0
       have HR350_0 := A0_ hi350_0; have HC350_0 := A0_ hl350_0; clear hi350_0 hl350_0; replace p350 := eq_true p350; replace q350 := eq_true q350
       go_wp2_with (first | ((with_reducible refine gC (f := 89) rfl ?_); refine zJ (some 43) Try.func89 #[.slice A350_0 (rd_L2 l2 x7_2).length c350_0] ?_; (with_reducible refine (spec_PermValid.calls k2 _ _ (rd_L2 l2 x7_2) false _ ?side1 ?side2 A24.out).mono ?_); (case side1 => exact zC HR350_0 HB); (case side2 => exact HC350_0.out); rintro e w' ⟨rfl, ⟨nd, rfl⟩⟩; refine ⟨_, rfl, ?_⟩))
       go_ret
       exact ⟨by first | rfl | (simp [*] <;> rfl), zB_ HB⟩
      rw [if_neg c23] at H
      exact absurd H (by simp)
     rw [if_neg c22] at H; have c22b0 := dF c22; clear c22; obtain rfl := sI H
     go_wp2
     go_ret
     exact ⟨by first | rfl | (simp [*] <;> rfl), zB_ HB⟩

/-! ### spec_l1Back: function 93 -/
def spec_l1Back.l0 : Nat → List Int → List Int → Int → Option (List Int)
  | 0, _, _, _ => none
  | k + 1, x0, x3, x4 => if x4 < (x0.length : Int) then (if 0 ≤ x4 then (if 0 ≤ (rd x0 x4) then (if (rd x0 x4) < (x3.length : Int) then (spec_l1Back.l0 k x0 (x3.set ((rd x0 x4) : Int).toNat x4) (wrap64 (x4 + 1))) else (none)) else (none)) else (none)) else (some x3)
def spec_l1Back.f (k : Nat) (l0 : List Int) : Option (List Int) := if 0 ≤ (l0.length : Int) then (if ((l0.length : Int) : Int).toNat ≤ 35184372088832 then (spec_l1Back.l0 k l0 (List.replicate ((l0.length : Int) : Int).toNat 0) 0) else (none)) else (none)
set_option maxHeartbeats 8000000 in
set_option maxRecDepth 100000 in
theorem spec_l1Back.calls (k : Nat) (A0 : Option Addr) (c0 : Nat) (l0 : List Int) (r : List Int) (w : World) (hr0 : Kd.C (Kd.int .i64) w A0 l0.length l0) (hc0 : l0.length ≤ c0) (h : spec_l1Back.f k l0 = some r) :
    Calls Try.prog 93 #[.slice A0 l0.length c0] w fun e w' => ∃ v0_ : Value, e = .returned (v0_) ∧ Kd.R (Kd.int .i64) 3 w' w.heap.size (fun _ => True) v0_ r ∧ Below w.heap.size w w' := by
 have HR0 := A0_ hr0; have HC0 := A0_ hc0; clear hr0 hc0
 have HB := A0_ (Below.refl w.heap.size w)
 have H : (if 0 ≤ (l0.length : Int) then (if ((l0.length : Int) : Int).toNat ≤ 35184372088832 then (spec_l1Back.l0 k l0 (List.replicate ((l0.length : Int) : Int).toNat 0) 0) else (none)) else (none)) = some r := h
 clear h
 by_cases c2 : 0 ≤ (l0.length : Int)
 ·rw [if_pos c2] at H
  have c2b0 := eq_true c2; have c2b1 := dT c2; clear c2
  by_cases c3 : ((l0.length : Int) : Int).toNat ≤ 35184372088832
  ·rw [if_pos c3] at H
   have c3b0 := eq_true c3; have c3b1 := dT c3; clear c3
   obtain ⟨y353, hy353⟩ : ∃ y_ : List Int, y_ = (List.replicate ((l0.length : Int) : Int).toNat 0) := ⟨_, rfl⟩
   replace H : (spec_l1Back.l0 k l0 y353 0) = some r := zH hy353 H
   have Ny353 := A0_ hy353; clear hy353; have H' := A0_ H; clear H
   go_enter Try.func93, Try.ntmps93
   go_wp2_with (first | ((with_reducible refine gD (N := 7) rfl ?_); refine Kd.R_make (Kd.int .i64) _ 3 rfl (N := 7) rfl 23 _ _ rfl (l0.length : Int) rfl rfl Try.underlying23 (.int .i64 0) 8 info3 rfl (by decide) (by omega) 0 (ok := fun _ => True) (okp := fun _ => True) rfl (fun _ hk => hk) trivial (zd) (Nat.le_trans (Nat.mul_le_mul_right _ (zd : (l0.length : Int).toNat ≤ 35184372088832)) (by omega)) (Below.refl _ _) (Nat.le_refl _) ?_; intro v354 w4 ho5 hb hg_ hnew_; clear hg_ hnew_; (first | rw [← Ny353.out] at ho5 | (simp only [Int.reduceToNat] at ho5; rw [← Ny353.out] at ho5)); have HO355 := A0_ (rL ho5 (bZ (zB_ HB))); replace HB := zB HB hb; clear hb ho5))
   go_loopg [4] k (fun kq v4 w' => ∃ (x3_1 : List Int) (x4_1 : Int), v4 = .int .i64 x4_1 ∧ Aside0 (spec_l1Back.l0 kq l0 x3_1 x4_1 = some r) ∧ Aside0 (kq ≤ k) ∧ Aside0 (Kd.R (Kd.int .i64) 3 w' w.heap.size (fun _ => True) v354 x3_1) ∧ Aside0 (Below w.heap.size w w'))
   case atStart => exact ⟨(y353), (0), zt, H', ⟨Nat.le_refl _⟩, ⟨zR_ HO355⟩, ⟨zB_ HB⟩⟩
   case round =>
    clear H'; (try clear c2); (try clear c2b0); (try clear c2b1); (try clear p2); (try clear c3); (try clear c3b0); (try clear c3b1); obtain ⟨x3_1, x4_1, rfl, HA, HK1, HO_3, HB⟩ := hrel
    cases gk with
    | zero => exact absurd HA.out (by simp [spec_l1Back.l0])
    | succ k1 =>
     have H := HA.out; clear HA; simp only [spec_l1Back.l0] at H
     by_cases c6 : x4_1 < (l0.length : Int)
     ·rw [if_pos c6] at H
      have c6b0 := dT c6; clear c6
      by_cases c7 : 0 ≤ x4_1
      ·rw [if_pos c7] at H
       have c7b0 := dT c7; clear c7
       by_cases c8 : 0 ≤ (rd l0 x4_1)
       ·rw [if_pos c8] at H
        have c8b0 := dT c8; clear c8
        by_cases c9 : (rd l0 x4_1) < (x3_1.length : Int)
        ·rw [if_pos c9] at H
         have c9b0 := dT c9; clear c9
         obtain ⟨y357, hy357⟩ : ∃ y_ : List Int, y_ = (x3_1.set ((rd l0 x4_1) : Int).toNat x4_1) := ⟨_, rfl⟩
         replace H : (spec_l1Back.l0 k1 l0 y357 (wrap64 (x4_1 + 1))) = some r := zH hy357 H
         have Ny357 := A0_ hy357; clear hy357; have H' := A0_ H; clear H
         have p356 : 0 ≤ (x4_1 : Int) := zd
         have q356 : x4_1 < (l0.length : Int) := zd
         obtain ⟨ad356, e356, hx356_0⟩ := tI HR0.out x4_1 p356 q356
         cases e356
         try replace hx356_0 := (HB.out.cell (wL w _ hx356_0)).trans hx356_0
         replace p356 := eq_true p356; replace q356 := eq_true q356
         have p10 : 0 ≤ ((rd l0 x4_1) : Int) := zd
         have q10 : ((rd l0 x4_1) : Int) < ((x3_1.length : Int) : Int) := zd
         obtain ⟨go10, co10, eo10, gb10, gl10, cl10, HG10⟩ := Kd.R_form HO_3.out (by omega)
         (first | cases eo10 | (injection eo10 with ea_ en_ ec_; (first | subst ea_ | (injection ea_ with ea_; subst ea_)); subst ec_; clear en_))
         have GB10 := A0_ gb10; have GG10 := A0_ HG10; clear gb10 gl10 HG10
         obtain ⟨hx10_0, hf10_0⟩ := Kd.R_celln 0 HO_3.out ((rd l0 x4_1) : Int) p10 q10
         replace p10 := eq_true p10; replace q10 := eq_true q10
         have HP11 := Kd.R_putg HO_3.out ((rd l0 x4_1) : Int) x4_1
         go_wp2_with (first | ((with_reducible refine gS (t := 3) (p := 20) rfl ?_); refine store_event (t := 3) (p := 20) (v := ?vo_w12) (w1 := (wr.setCell ⟨go10, ((rd l0 x4_1) : Int).toNat, none⟩ (.int .i64 x4_1))) ?hg ?ho ?hn ?hr ?_; (case ho => rfl); (case hg => rfl); (case hn => rfl); (case hr => first | (go_simp; done) | (go_simp; rfl)); intro w12 hw; have hg : wr.grownBy w12 (some go10) := (by rw [hw]; exact HP11.2); have hp_ : Kd.R (Kd.int .i64) 3 w12 w.heap.size (fun _ => True) (.slice (some ⟨go10, 0, none⟩) x3_1.length co10) y357 := (by rw [hw, Ny357.out]; exact HP11.1); clear HP11; replace HO_3 := A0_ (hp_); replace HB := A0_ ((by rw [hw]; exact bS (HB.out) GB10.out : Below w.heap.size w w12)); clear hg hw hp_))
         go_roundg k1
         case measure => have := HK1.out; omega
         case rel => exact ⟨(y357), (wrap64 (x4_1 + 1)), zt, H', ⟨by have := HK1.out; omega⟩, ⟨zR_ HO_3⟩, ⟨zB_ HB⟩⟩
        rw [if_neg c9] at H
        exact absurd H (by simp)
       rw [if_neg c8] at H
       exact absurd H (by simp)
      rw [if_neg c7] at H
      exact absurd H (by simp)
     rw [if_neg c6] at H; have c6b0 := dF c6; clear c6; obtain rfl := sI H
     go_wp2
     go_ret
     exact ⟨_, by first | rfl | (simp [*] <;> rfl), zR_ HO_3, zB_ HB⟩
  rw [if_neg c3] at H
  exact absurd H (by simp)
 rw [if_neg c2] at H
 exact absurd H (by simp)

/-! ### spec_l7Edges: function 112 -/
def spec_l7Edges.l0 : Nat → List Int → Int → Int → List Int → List Int → Option (List Int)
  | 0, _, _, _, _, _ => none
  | k + 1, x3, x4, x5, x359000, x359001 => if x5 < (x3.length : Int) then (if 0 ≤ x5 then (if x5 < (x359001.length : Int) then (if x5 < (rd x359001 x5) then (if 0 ≤ (rd x359001 x5) then (if (rd x359001 x5) < (x3.length : Int) then (spec_l7Edges.l0 k ((x3.set (x5 : Int).toNat x4).set ((rd x359001 x5) : Int).toNat x4) (wrap64 (x4 + 1)) (wrap64 (x5 + 1)) x359000 x359001) else (none)) else (none)) else (spec_l7Edges.l0 k x3 x4 (wrap64 (x5 + 1)) x359000 x359001)) else (none)) else (none)) else (some x3)
def spec_l7Edges.f (k : Nat) (l0_0 : List Int) (l0_1 : List Int) : Option (List Int) := if 0 ≤ (l0_1.length : Int) then (if ((l0_1.length : Int) : Int).toNat ≤ 35184372088832 then (spec_l7Edges.l0 k (List.replicate ((l0_1.length : Int) : Int).toNat 0) 0 0 l0_0 l0_1) else (none)) else (none)
set_option maxHeartbeats 8000000 in
set_option maxRecDepth 100000 in
theorem spec_l7Edges.calls (k : Nat) (A0_0 : Option Addr) (c0_0 : Nat) (l0_0 : List Int) (A0_1 : Option Addr) (c0_1 : Nat) (l0_1 : List Int) (r : List Int) (w : World) (hr0_0 : Kd.C (Kd.int .i64) w A0_0 l0_0.length l0_0) (hc0_0 : l0_0.length ≤ c0_0) (hr0_1 : Kd.C (Kd.int .i64) w A0_1 l0_1.length l0_1) (hc0_1 : l0_1.length ≤ c0_1) (h : spec_l7Edges.f k l0_0 l0_1 = some r) :
    Calls Try.prog 112 #[.agg #[.slice A0_0 l0_0.length c0_0, .slice A0_1 l0_1.length c0_1]] w fun e w' => ∃ v0_ : Value, e = .returned (v0_) ∧ Kd.R (Kd.int .i64) 3 w' w.heap.size (fun _ => True) v0_ r ∧ Below w.heap.size w w' := by
 have hu25 := Try.underlying25; have HR0_0 := A0_ hr0_0; have HC0_0 := A0_ hc0_0; clear hr0_0 hc0_0; have HR0_1 := A0_ hr0_1; have HC0_1 := A0_ hc0_1; clear hr0_1 hc0_1
 have HB := A0_ (Below.refl w.heap.size w)
 have H : (if 0 ≤ (l0_1.length : Int) then (if ((l0_1.length : Int) : Int).toNat ≤ 35184372088832 then (spec_l7Edges.l0 k (List.replicate ((l0_1.length : Int) : Int).toNat 0) 0 0 l0_0 l0_1) else (none)) else (none)) = some r := h
 clear h
 by_cases c2 : 0 ≤ (l0_1.length : Int)
 ·rw [if_pos c2] at H
  have c2b0 := eq_true c2; have c2b1 := dT c2; clear c2
  by_cases c3 : ((l0_1.length : Int) : Int).toNat ≤ 35184372088832
  ·rw [if_pos c3] at H
   have c3b0 := eq_true c3; have c3b1 := dT c3; clear c3
   obtain ⟨y359, hy359⟩ : ∃ y_ : List Int, y_ = (List.replicate ((l0_1.length : Int) : Int).toNat 0) := ⟨_, rfl⟩
   replace H : (spec_l7Edges.l0 k y359 0 0 l0_0 l0_1) = some r := zH hy359 H
   have Ny359 := A0_ hy359; clear hy359; have H' := A0_ H; clear H
   go_enter Try.func112, Try.ntmps112
   go_wp2_with (first | ((with_reducible refine gD (N := 1) rfl ?_); refine zX (N := 1) (cs := #[.slice A0_0 l0_0.length c0_0, .slice A0_1 l0_1.length c0_1]) (t := 25) ?_; intro gb358 hg w4 hbox hb; have BK358 := A0_ (hbox); have GW358 := zG hg HB; have GE358 := zG hg HB; replace HB := zB HB hb; clear hb hbox hg; have hcz5_0 := zc0 BK358; have hcz5_1 := zc1 BK358; have hfz5_0 := kF BK358.out 0; have hfz5_1 := kF BK358.out 1) | ((with_reducible refine gD (N := 9) rfl ?_); refine Kd.R_make (Kd.int .i64) _ 3 rfl (N := 9) rfl 23 _ _ rfl (l0_1.length : Int) rfl rfl Try.underlying23 (.int .i64 0) 8 info3 rfl (by decide) (by omega) 0 (ok := fun _ => True) (okp := fun _ => True) rfl (fun _ hk => hk) trivial (zd) (Nat.le_trans (Nat.mul_le_mul_right _ (zd : (l0_1.length : Int).toNat ≤ 35184372088832)) (by omega)) (Below.refl _ _) (Nat.le_refl _) ?_; intro v360 w6 ho7 hb hg_ hnew_; clear hg_ hnew_; (first | rw [← Ny359.out] at ho7 | (simp only [Int.reduceToNat] at ho7; rw [← Ny359.out] at ho7)); have HO361 := A0_ (rL ho7 (bZ (zB_ HB))); replace BK358 := zK BK358 hb; replace HB := zB HB hb; clear hb ho7))
   go_loopg [4, 5] k (fun kq v4 v5 w' => ∃ (x3_1 : List Int) (x4_1 : Int) (x5_1 : Int), v4 = .int .i64 x4_1 ∧ v5 = .int .i64 x5_1 ∧ Aside0 (spec_l7Edges.l0 kq x3_1 x4_1 x5_1 l0_0 l0_1 = some r) ∧ Aside0 (kq ≤ k) ∧ Aside0 (Kd.R (Kd.int .i64) 3 w' w.heap.size (fun _ => True) v360 x3_1) ∧ Aside0 (w'.heap[gb358]? = some (.cells #[(.slice A0_0 l0_0.length c0_0), (.slice A0_1 l0_1.length c0_1)] 25 (0, 0))) ∧ Aside0 (Below w.heap.size w w'))
   case atStart => exact ⟨(y359), (0), (0), zt, zt, H', ⟨Nat.le_refl _⟩, ⟨zR_ HO361⟩, ⟨zK_ BK358⟩, ⟨zB_ HB⟩⟩
   case round =>
    clear H'; (try clear c1); (try clear c2); (try clear c2b0); (try clear c2b1); (try clear p2); (try clear c3); (try clear c3b0); (try clear c3b1); (try clear hcz5_0); (try clear hcz5_1); (try clear hfz5_0); (try clear hfz5_1); obtain ⟨x3_1, x4_1, x5_1, rfl, rfl, HA, HK1, HO_3, BK358, HB⟩ := hrel
    cases gk with
    | zero => exact absurd HA.out (by simp [spec_l7Edges.l0])
    | succ k1 =>
     have H := HA.out; clear HA; simp only [spec_l7Edges.l0] at H
     by_cases c8 : x5_1 < (x3_1.length : Int)
     ·rw [if_pos c8] at H
      have c8b0 := dT c8; clear c8
      by_cases c9 : 0 ≤ x5_1
      ·rw [if_pos c9] at H
       have c9b0 := dT c9; clear c9
       by_cases c10 : x5_1 < (l0_1.length : Int)
       ·rw [if_pos c10] at H
        have c10b0 := dT c10; clear c10
        by_cases c11 : x5_1 < (rd l0_1 x5_1)
        ·rw [if_pos c11] at H
         have c11b0 := dT c11; clear c11
         obtain ⟨y363, hy363⟩ : ∃ y_ : List Int, y_ = (x3_1.set (x5_1 : Int).toNat x4_1) := ⟨_, rfl⟩
         replace H : (if 0 ≤ (rd l0_1 x5_1) then (if (rd l0_1 x5_1) < (x3_1.length : Int) then (spec_l7Edges.l0 k1 (y363.set ((rd l0_1 x5_1) : Int).toNat x4_1) (wrap64 (x4_1 + 1)) (wrap64 (x5_1 + 1)) l0_0 l0_1) else (none)) else (none)) = some r := zH hy363 H
         have Ny363 := A0_ hy363; clear hy363
         by_cases c13 : 0 ≤ (rd l0_1 x5_1)
         ·rw [if_pos c13] at H
          have c13b0 := dT c13; clear c13
          by_cases c14 : (rd l0_1 x5_1) < (x3_1.length : Int)
          ·rw [if_pos c14] at H
           have c14b0 := dT c14; clear c14
           obtain ⟨y365, hy365⟩ : ∃ y_ : List Int, y_ = (y363.set ((rd l0_1 x5_1) : Int).toNat x4_1) := ⟨_, rfl⟩
           replace H : (spec_l7Edges.l0 k1 y365 (wrap64 (x4_1 + 1)) (wrap64 (x5_1 + 1)) l0_0 l0_1) = some r := zH hy365 H
           have Ny365 := A0_ hy365; clear hy365; have H' := A0_ H; clear H; obtain ⟨Ao16, co16, eo16⟩ := rS HO_3.out; subst eo16; have hcz17_0 := zc0 BK358; have hcz17_1 := zc1 BK358; have hfz17_0 := kF BK358.out 0; have hfz17_1 := kF BK358.out 1
           have p362 : 0 ≤ (x5_1 : Int) := zd
           have q362 : x5_1 < (l0_1.length : Int) := zd
           obtain ⟨ad362, e362, hx362_0⟩ := tI HR0_1.out x5_1 p362 q362
           cases e362
           try replace hx362_0 := (HB.out.cell (wL w _ hx362_0)).trans hx362_0
           replace p362 := eq_true p362; replace q362 := eq_true q362
           have p12 : 0 ≤ (x5_1 : Int) := zd
           have q12 : (x5_1 : Int) < ((x3_1.length : Int) : Int) := zd
           obtain ⟨go12, co12, eo12, gb12, gl12, cl12, HG12⟩ := Kd.R_form HO_3.out (by omega)
           (first | cases eo12 | (injection eo12 with ea_ en_ ec_; (first | subst ea_ | (injection ea_ with ea_; subst ea_)); subst ec_; clear en_))
           have GB12 := A0_ gb12; have GG12 := A0_ HG12; clear gb12 gl12 HG12
           obtain ⟨hx12_0, hf12_0⟩ := Kd.R_celln 0 HO_3.out (x5_1 : Int) p12 q12
           replace p12 := eq_true p12; replace q12 := eq_true q12
           have HP18 := Kd.R_putg HO_3.out (x5_1 : Int) x4_1
           go_wp2_with (first | ((with_reducible refine gS (t := 3) (p := 26) rfl ?_); refine store_event (t := 3) (p := 26) (v := ?vo_w19) (w1 := (wr.setCell ⟨go12, (x5_1 : Int).toNat, none⟩ (.int .i64 x4_1))) ?hg ?ho ?hn ?hr ?_; (case ho => rfl); (case hg => rfl); (case hn => rfl); (case hr => first | (go_simp; done) | (go_simp; rfl)); intro w19 hw; have hg : wr.grownBy w19 (some go12) := (by rw [hw]; exact HP18.2); have hp_ : Kd.R (Kd.int .i64) 3 w19 w.heap.size (fun _ => True) (.slice (some ⟨go12, 0, none⟩) x3_1.length co16) y363 := (by rw [hw, Ny363.out]; exact HP18.1); clear HP18; replace BK358 := A0_ (blk_grown (g := gb358) (o := .cells #[.slice A0_0 l0_0.length c0_0, .slice (some ad362) l0_1.length c0_1] 25 (0, 0)) (zK_ BK358) hg (Kd.R_ne HO_3.out BK358.out (by decide))); replace HO_3 := A0_ (hp_); replace HB := A0_ ((by rw [hw]; exact bS (HB.out) GB12.out : Below w.heap.size w w19)); clear hg hw hp_; have hcz20_0 := zc0 BK358; have hcz20_1 := zc1 BK358; have hfz20_0 := kF BK358.out 0; have hfz20_1 := kF BK358.out 1; have p364 : 0 ≤ (x5_1 : Int) := zd; have q364 : x5_1 < (l0_1.length : Int) := zd; obtain ⟨ad364, e364, hx364_0⟩ := tI HR0_1.out x5_1 p364 q364; obtain rfl : ad362 = ad364 := (by injection e364); try replace hx364_0 := (HB.out.cell (wL w _ hx364_0)).trans hx364_0; replace p364 := eq_true p364; replace q364 := eq_true q364; have p15 : 0 ≤ ((rd l0_1 x5_1) : Int) := zd; have q15 : ((rd l0_1 x5_1) : Int) < ((x3_1.length : Int) : Int) := zd; obtain ⟨hx15_0, hf15_0⟩ := Kd.R_celln 0 HO_3.out ((rd l0_1 x5_1) : Int) p15 q15; replace p15 := eq_true p15; replace q15 := eq_true q15; obtain ⟨hy21_, hz21_⟩ := Kd.R_celln 0 HO_3.out ((rd l0_1 x5_1) : Int) (zd) (zd); have HP21 := Kd.R_putg HO_3.out ((rd l0_1 x5_1) : Int) x4_1) | ((with_reducible refine gS (t := 3) (p := 34) rfl ?_); refine store_event (t := 3) (p := 34) (v := ?vo_w22) (w1 := (w19.setCell ⟨go12, ((rd l0_1 x5_1) : Int).toNat, none⟩ (.int .i64 x4_1))) ?hg ?ho ?hn ?hr ?_; (case ho => rfl); (case hg => rfl); (case hn => rfl); (case hr => first | (go_simp; done) | (go_simp; rfl)); intro w22 hw; have hg : w19.grownBy w22 (some go12) := (by rw [hw]; exact HP21.2); have hp_ : Kd.R (Kd.int .i64) 3 w22 w.heap.size (fun _ => True) (.slice (some ⟨go12, 0, none⟩) x3_1.length co16) y365 := (by rw [hw, Ny365.out]; exact HP21.1); clear HP21; replace BK358 := A0_ (blk_grown (g := gb358) (o := .cells #[.slice A0_0 l0_0.length c0_0, .slice (some ad362) l0_1.length c0_1] 25 (0, 0)) (zK_ BK358) hg (Kd.R_ne HO_3.out BK358.out (by decide))); replace HO_3 := A0_ (hp_); replace HB := A0_ ((by rw [hw]; exact bS (HB.out) GB12.out : Below w.heap.size w w22)); clear hg hw hp_))
           go_roundg k1
           case measure => have := HK1.out; omega
           case rel => exact ⟨(y365), (wrap64 (x4_1 + 1)), (wrap64 (x5_1 + 1)), zt, zt, H', ⟨by have := HK1.out; omega⟩, ⟨zR_ HO_3⟩, ⟨zK_ BK358⟩, ⟨zB_ HB⟩⟩
          rw [if_neg c14] at H
          exact absurd H (by simp)
         rw [if_neg c13] at H
         exact absurd H (by simp)
        rw [if_neg c11] at H; have c11b0 := dF c11; clear c11; have H' := A0_ H; clear H; obtain ⟨Ao23, co23, eo23⟩ := rS HO_3.out; subst eo23; have hcz24_0 := zc0 BK358; have hcz24_1 := zc1 BK358; have hfz24_0 := kF BK358.out 0; have hfz24_1 := kF BK358.out 1
        have p362 : 0 ≤ (x5_1 : Int) := zd
        have q362 : x5_1 < (l0_1.length : Int) := zd
        obtain ⟨ad362, e362, hx362_0⟩ := tI HR0_1.out x5_1 p362 q362
        cases e362
        try replace hx362_0 := (HB.out.cell (wL w _ hx362_0)).trans hx362_0
        replace p362 := eq_true p362; replace q362 := eq_true q362
        go_wp2
        go_roundg k1
        case measure => have := HK1.out; omega
        case rel => exact ⟨(x3_1), (x4_1), (wrap64 (x5_1 + 1)), zt, zt, H', ⟨by have := HK1.out; omega⟩, ⟨zR_ HO_3⟩, ⟨zK_ BK358⟩, ⟨zB_ HB⟩⟩
       rw [if_neg c10] at H
       exact absurd H (by simp)
      rw [if_neg c9] at H
      exact absurd H (by simp)
     rw [if_neg c8] at H; have c8b0 := dF c8; clear c8; obtain rfl := sI H; obtain ⟨Ao25, co25, eo25⟩ := rS HO_3.out; subst eo25
     go_wp2
     go_ret
     exact ⟨_, by first | rfl | (simp [*] <;> rfl), zR_ HO_3, zB_ HB⟩
  rw [if_neg c3] at H
  exact absurd H (by simp)
 rw [if_neg c2] at H
 exact absurd H (by simp)

/-! ### spec_l9Volt: function 96 -/
def spec_l9Volt.f (k : Nat) (l0_0 : List Int) (l0_1 : List Int) (l1 : List (List Int)) (a2 : Int) : Option (List Int) := (spec_l7Edges.f k l0_0 l0_1).bind fun t367 => (if 0 ≤ a2 then (if a2 < (t367.length : Int) then (if a2 < (l0_1.length : Int) then (if a2 < (rd l0_1 a2) then (if 0 ≤ (rd t367 a2) then (if (rd t367 a2) < (l1.length : Int) then (some (rd_L2 l1 (rd t367 a2))) else (none)) else (none)) else (if 0 ≤ (rd t367 a2) then (if (rd t367 a2) < (l1.length : Int) then ((spec_l1Back.f k (rd_L2 l1 (rd t367 a2))).bind fun t374 => (some t374)) else (none)) else (none))) else (none)) else (none)) else (none))
set_option maxHeartbeats 8000000 in
set_option maxRecDepth 100000 in
theorem spec_l9Volt.calls (k : Nat) (A0_0 : Option Addr) (c0_0 : Nat) (l0_0 : List Int) (A0_1 : Option Addr) (c0_1 : Nat) (l0_1 : List Int) (P1_ : Nat → Prop) (A1 : Option Addr) (c1 : Nat) (l1 : List (List Int)) (a2 : Int) (r : List Int) (w : World) (hr0_0 : Kd.C (Kd.int .i64) w A0_0 l0_0.length l0_0) (hc0_0 : l0_0.length ≤ c0_0) (hr0_1 : Kd.C (Kd.int .i64) w A0_1 l0_1.length l0_1) (hc0_1 : l0_1.length ≤ c0_1) (hs1 : Kd.V (Kd.slice 3 (Kd.int .i64)) 23 w w.heap.size (fun k_ => P1_ k_) (.slice A1 l1.length c1) l1) (h : spec_l9Volt.f k l0_0 l0_1 l1 a2 = some r) :
    Calls Try.prog 96 #[.agg #[.slice A0_0 l0_0.length c0_0, .slice A0_1 l0_1.length c0_1], .slice A1 l1.length c1, .int .i64 a2] w fun e w' => ∃ v0_ : Value, e = .returned (v0_) ∧ Kd.V (Kd.int .i64) 3 w' w.heap.size (fun k_ => (P1_ k_ ∨ w.heap.size ≤ k_)) v0_ r ∧ Below w.heap.size w w' := by
 have hu25 := Try.underlying25; have HR0_0 := A0_ hr0_0; have HC0_0 := A0_ hc0_0; clear hr0_0 hc0_0; have HR0_1 := A0_ hr0_1; have HC0_1 := A0_ hc0_1; clear hr0_1 hc0_1
 have HO1 := A0_ (show Kd.V (Kd.slice 3 (Kd.int .i64)) 23 w w.heap.size (fun k_ => (P1_ k_ ∨ w.heap.size ≤ k_)) (.slice A1 l1.length c1) l1 from Kd.V_mono hs1 (fun k_ hk => .inl hk))
 have HB := A0_ (Below.refl w.heap.size w)
 have H : ((spec_l7Edges.f k l0_0 l0_1).bind fun t367 => (if 0 ≤ a2 then (if a2 < (t367.length : Int) then (if a2 < (l0_1.length : Int) then (if a2 < (rd l0_1 a2) then (if 0 ≤ (rd t367 a2) then (if (rd t367 a2) < (l1.length : Int) then (some (rd_L2 l1 (rd t367 a2))) else (none)) else (none)) else (if 0 ≤ (rd t367 a2) then (if (rd t367 a2) < (l1.length : Int) then ((spec_l1Back.f k (rd_L2 l1 (rd t367 a2))).bind fun t374 => (some t374)) else (none)) else (none))) else (none)) else (none)) else (none))) = some r := h
 clear h; obtain ⟨t367, A4, H⟩ := zbind H
 by_cases c5 : 0 ≤ a2
 ·rw [if_pos c5] at H
  have c5b0 := dT c5; clear c5
  by_cases c6 : a2 < (t367.length : Int)
  ·rw [if_pos c6] at H
   have c6b0 := dT c6; clear c6
   by_cases c7 : a2 < (l0_1.length : Int)
   ·rw [if_pos c7] at H
    have c7b0 := dT c7; clear c7
    by_cases c8 : a2 < (rd l0_1 a2)
    ·rw [if_pos c8] at H
     have c8b0 := dT c8; clear c8
     by_cases c9 : 0 ≤ (rd t367 a2)
     ·rw [if_pos c9] at H
      have c9b0 := dT c9; clear c9
      by_cases c10 : (rd t367 a2) < (l1.length : Int)
      ·rw [if_pos c10] at H
       have c10b0 := dT c10; clear c10; obtain rfl := sI H
       go_enter Try.func96, Try.ntmps96
       go_wp2_with (first | ((with_reducible refine gD (N := 3) rfl ?_); refine zX (N := 3) (cs := #[.slice A0_0 l0_0.length c0_0, .slice A0_1 l0_1.length c0_1]) (t := 25) ?_; intro gb366 hg w11 hbox hb; replace HO1 := A0_ (Kd.V_below (Kd.V_elderB (by (with_reducible repeat (first | apply Kd.V_alloc | apply Kd.V_drewN | apply Kd.V_drew)); exact HO1.out) gb366 (Nat.le_of_eq hg.symm)) hb); have BK366 := A0_ (hbox); have GW366 := zG hg HB; have GE366 := zG hg HB; replace HB := zB HB hb; clear hb hbox hg; have hcz12_0 := zc0 BK366; have hcz12_1 := zc1 BK366; have hfz12_0 := kF BK366.out 0; have hfz12_1 := kF BK366.out 1) | ((with_reducible refine gC (f := 112) rfl ?_); refine zJ (some 9) Try.func112 #[.agg #[.slice A0_0 l0_0.length c0_0, .slice A0_1 l0_1.length c0_1]] ?_; (with_reducible refine (spec_l7Edges.calls k _ _ l0_0 _ _ l0_1 t367 _ ?side1 ?side2 ?side3 ?side4 A4.out).mono ?_); (case side1 => exact zC HR0_0 HB); (case side2 => exact HC0_0.out); (case side3 => exact zC HR0_1 HB); (case side4 => exact HC0_1.out); rintro e w13 ⟨v368, rfl, ho0, hb⟩; refine ⟨_, rfl, ?_⟩; replace HO1 := A0_ (Kd.V_elder' (by (with_reducible repeat (first | apply Kd.V_alloc | apply Kd.V_drewN | apply Kd.V_drew)); exact HO1.out) (Kd.R_base ho0) hb); have HO369 := A0_ (rL (Kd.R_newM (M := fun k_ => (w.heap.size ≤ k_)) ho0 (bZ (zB_ HB)) (fun k_ h_ => h_)) (bZ (zB_ HB))); replace BK366 := zK BK366 hb; replace HB := zB HB hb; (try clear hb); (try clear ho0); obtain ⟨Ao14, co14, eo14⟩ := rS HO369.out; subst eo14; have p370 : 0 ≤ (a2 : Int) := zd; have q370 : a2 < (t367.length : Int) := zd; obtain ⟨ad370, e370, hx370_0⟩ := tI (rR HO369.out).2.2 a2 p370 q370; cases e370; replace p370 := eq_true p370; replace q370 := eq_true q370; have hcz15_0 := zc0 BK366; have hcz15_1 := zc1 BK366; have hfz15_0 := kF BK366.out 0; have hfz15_1 := kF BK366.out 1; have p371 : 0 ≤ (a2 : Int) := zd; have q371 : a2 < (l0_1.length : Int) := zd; obtain ⟨ad371, e371, hx371_0⟩ := tI HR0_1.out a2 p371 q371; cases e371; try replace hx371_0 := (HB.out.cell (wL w _ hx371_0)).trans hx371_0; replace p371 := eq_true p371; replace q371 := eq_true q371; have p372 : 0 ≤ ((rd t367 a2) : Int) := zd; have q372 : (rd t367 a2) < (l1.length : Int) := zd; obtain ⟨ad372, A372_0, c372_0, e372, hx372_0, hl372_0, hi372_0⟩ := at_L2 (Kd.V_reads' HO1.out).2.2 (rd t367 a2) p372 q372; cases e372; obtain ⟨ce372, hce372, hMe372, hcc372⟩ := Kd.V_get HO1.out [] (rd t367 a2) p372 (by first | exact q372 | exact zd | (have e_ := (Kd.V_reads' HO1.out).1; omega)); obtain ⟨ua372_0, uc372_0, rfl, ul372_0, ge372_0⟩ := Kd.FK_slice_open hMe372; have hv372_0 := hcc372 0 _ rfl; rw [Nat.add_zero, show ((Kd.slice 3 (Kd.int .i64))).sz = 1 from rfl, Nat.mul_one] at hv372_0; replace hv372_0 := sI (hv372_0.symm.trans hx372_0); injection hv372_0 with hva_ hvn_ hvc_; rw [hva_] at ge372_0; rw [hvc_] at ul372_0; have HL372_0 := A0_ (show Kd.V (Kd.int .i64) 3 _ w.heap.size _ _ (rd_L2 l1 (rd t367 a2)) from Kd.V_mk ul372_0 ge372_0); clear hva_ hvn_ hvc_ ge372_0 ul372_0 hcc372 hce372; have HR372_0 := A0_ hi372_0; have HC372_0 := A0_ hl372_0; clear hi372_0 hl372_0; replace p372 := eq_true p372; replace q372 := eq_true q372))
       go_ret
       exact ⟨_, by first | rfl | (simp [*] <;> rfl), by (with_reducible repeat (first | apply Kd.V_alloc | apply Kd.V_drewN | apply Kd.V_drew)); exact Kd.V_mono HL372_0.out (fun _ hk => hk.1.1), zB_ HB⟩
      rw [if_neg c10] at H
      exact absurd H (by simp)
     rw [if_neg c9] at H
     exact absurd H (by simp)
    rw [if_neg c8] at H; have c8b0 := dF c8; clear c8
    by_cases c16 : 0 ≤ (rd t367 a2)
    ·rw [if_pos c16] at H
     have c16b0 := dT c16; clear c16
     by_cases c17 : (rd t367 a2) < (l1.length : Int)
     ·rw [if_pos c17] at H
      have c17b0 := dT c17; clear c17; obtain ⟨t374, A18, H⟩ := zbind H; obtain rfl := sI H
      go_enter Try.func96, Try.ntmps96
      go_wp2_with (first | ((with_reducible refine gD (N := 3) rfl ?_); refine zX (N := 3) (cs := #[.slice A0_0 l0_0.length c0_0, .slice A0_1 l0_1.length c0_1]) (t := 25) ?_; intro gb366 hg w19 hbox hb; replace HO1 := A0_ (Kd.V_below (Kd.V_elderB (by (with_reducible repeat (first | apply Kd.V_alloc | apply Kd.V_drewN | apply Kd.V_drew)); exact HO1.out) gb366 (Nat.le_of_eq hg.symm)) hb); have BK366 := A0_ (hbox); have GW366 := zG hg HB; have GE366 := zG hg HB; replace HB := zB HB hb; clear hb hbox hg; have hcz20_0 := zc0 BK366; have hcz20_1 := zc1 BK366; have hfz20_0 := kF BK366.out 0; have hfz20_1 := kF BK366.out 1) | ((with_reducible refine gC (f := 112) rfl ?_); refine zJ (some 9) Try.func112 #[.agg #[.slice A0_0 l0_0.length c0_0, .slice A0_1 l0_1.length c0_1]] ?_; (with_reducible refine (spec_l7Edges.calls k _ _ l0_0 _ _ l0_1 t367 _ ?side1 ?side2 ?side3 ?side4 A4.out).mono ?_); (case side1 => exact zC HR0_0 HB); (case side2 => exact HC0_0.out); (case side3 => exact zC HR0_1 HB); (case side4 => exact HC0_1.out); rintro e w21 ⟨v368, rfl, ho0, hb⟩; refine ⟨_, rfl, ?_⟩; replace HO1 := A0_ (Kd.V_elder' (by (with_reducible repeat (first | apply Kd.V_alloc | apply Kd.V_drewN | apply Kd.V_drew)); exact HO1.out) (Kd.R_base ho0) hb); have HO369 := A0_ (rL (Kd.R_newM (M := fun k_ => (w.heap.size ≤ k_)) ho0 (bZ (zB_ HB)) (fun k_ h_ => h_)) (bZ (zB_ HB))); replace BK366 := zK BK366 hb; replace HB := zB HB hb; (try clear hb); (try clear ho0); obtain ⟨Ao22, co22, eo22⟩ := rS HO369.out; subst eo22; have p370 : 0 ≤ (a2 : Int) := zd; have q370 : a2 < (t367.length : Int) := zd; obtain ⟨ad370, e370, hx370_0⟩ := tI (rR HO369.out).2.2 a2 p370 q370; cases e370; replace p370 := eq_true p370; replace q370 := eq_true q370; have hcz23_0 := zc0 BK366; have hcz23_1 := zc1 BK366; have hfz23_0 := kF BK366.out 0; have hfz23_1 := kF BK366.out 1; have p371 : 0 ≤ (a2 : Int) := zd; have q371 : a2 < (l0_1.length : Int) := zd; obtain ⟨ad371, e371, hx371_0⟩ := tI HR0_1.out a2 p371 q371; cases e371; try replace hx371_0 := (HB.out.cell (wL w _ hx371_0)).trans hx371_0; replace p371 := eq_true p371; replace q371 := eq_true q371; have p373 : 0 ≤ ((rd t367 a2) : Int) := zd; have q373 : (rd t367 a2) < (l1.length : Int) := zd; obtain ⟨ad373, A373_0, c373_0, e373, hx373_0, hl373_0, hi373_0⟩ := at_L2 (Kd.V_reads' HO1.out).2.2 (rd t367 a2) p373 q373; cases e373; obtain ⟨ce373, hce373, hMe373, hcc373⟩ := Kd.V_get HO1.out [] (rd t367 a2) p373 (by first | exact q373 | exact zd | (have e_ := (Kd.V_reads' HO1.out).1; omega)); obtain ⟨ua373_0, uc373_0, rfl, ul373_0, ge373_0⟩ := Kd.FK_slice_open hMe373; have hv373_0 := hcc373 0 _ rfl; rw [Nat.add_zero, show ((Kd.slice 3 (Kd.int .i64))).sz = 1 from rfl, Nat.mul_one] at hv373_0; replace hv373_0 := sI (hv373_0.symm.trans hx373_0); injection hv373_0 with hva_ hvn_ hvc_; rw [hva_] at ge373_0; rw [hvc_] at ul373_0; have HL373_0 := A0_ (show Kd.V (Kd.int .i64) 3 _ w.heap.size _ _ (rd_L2 l1 (rd t367 a2)) from Kd.V_mk ul373_0 ge373_0); clear hva_ hvn_ hvc_ ge373_0 ul373_0 hcc373 hce373; have HR373_0 := A0_ hi373_0; have HC373_0 := A0_ hl373_0; clear hi373_0 hl373_0; replace p373 := eq_true p373; replace q373 := eq_true q373) | ((with_reducible refine gC (f := 93) rfl ?_); refine zJ (some 28) Try.func93 #[.slice A373_0 (rd_L2 l1 (rd t367 a2)).length c373_0] ?_; (with_reducible refine (spec_l1Back.calls k _ _ (rd_L2 l1 (rd t367 a2)) t374 _ ?side1 ?side2 A18.out).mono ?_); (case side1 => repeat (first | exact (by repeat (first | (with_reducible exact HR373_0.out) | (with_reducible refine cA ?_ _) | (with_reducible refine cN ?_ _) | (with_reducible refine cD ?_) | exact HR373_0.out)) | (with_reducible refine cA ?_ _) | (with_reducible refine cN ?_ _) | (with_reducible refine cD ?_))); (case side2 => exact HC373_0.out); rintro e w24 ⟨v375, rfl, ho0, hb⟩; refine ⟨_, rfl, ?_⟩; replace HO1 := A0_ (Kd.V_elder' (by (with_reducible repeat (first | apply Kd.V_alloc | apply Kd.V_drewN | apply Kd.V_drew)); exact HO1.out) (Kd.R_base ho0) hb); replace HL373_0 := A0_ (Kd.V_elder' (by (with_reducible repeat (first | apply Kd.V_alloc | apply Kd.V_drewN | apply Kd.V_drew)); exact HL373_0.out) (Kd.R_base ho0) hb); have HO376 := A0_ (rL (Kd.R_new' (Kd.R_newM (M := fun k_ => (w.heap.size ≤ k_)) ho0 (bZ (zB_ HB)) (fun k_ h_ => h_)) (rX (zR_ HO369))) (bZ (zB_ HB))); replace HO369 := A0_ (Kd.R_elder' (zR_ HO369) (Kd.R_base ho0) hb); replace BK366 := zK BK366 hb; replace HR373_0 := A0_ (cB (by repeat (first | (with_reducible exact HR373_0.out) | (with_reducible refine cA ?_ _) | (with_reducible refine cN ?_ _) | (with_reducible refine cD ?_) | exact HR373_0.out)) hb); replace HB := zB HB hb; (try clear hb); (try clear ho0)))
      go_ret
      exact ⟨_, by first | rfl | (simp [*] <;> rfl), Kd.V_mono (Kd.R_V (zmR HO376 (fun _ hk => hk.1.1))) (fun k_ hk => by first | exact ⟨(.inr (hk.1)), hk.2⟩ | exact (.inr (hk))), zB_ HB⟩
     rw [if_neg c17] at H
     exact absurd H (by simp)
    rw [if_neg c16] at H
    exact absurd H (by simp)
   rw [if_neg c7] at H
   exact absurd H (by simp)
  rw [if_neg c6] at H
  exact absurd H (by simp)
 rw [if_neg c5] at H
 exact absurd H (by simp)

end Go.Proofs.Ytmegggomhjgehaa.PFnCoverWhole
