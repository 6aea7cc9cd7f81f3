-- Made by a program of this session (wip/tools) out of the loaded program; not trusted: Lean checks it.
import Derived.Test.YtmegggomhjgehaaPFnCoverGenusx0
import Derived.Test.YtmegggomhjgehaaPFnCoverGenusx5
import Derived.Test.YtmegggomhjgehaaPFnCoverGenusx6
import Derived.Test.YtmegggomhjgehaaPFnCoverGenusx7
import Derived.Test.YtmegggomhjgehaaPFnCoverGenusx8
-- packed
namespace Go.Proofs.Ytmegggomhjgehaa.PFnCoverGenus
open Go.RowKit Go.Proofs.YtmegggomhjgehaaW.PrintWords Go.Proofs.YtmegggomhjgehaaW.PrintLast Go.Proofs.YtmegggomhjgehaaW.PrintMore
attribute [local go_sem] max2_int min2_int max_two min_two max_three min_three max_four min_four   -- for this text's walks alone
set_option linter.unusedVariables false
set_option linter.unusedSimpArgs false

/-! ### impl_CoverWhole: function 12 -/
def impl_CoverWhole.f (k : Nat) (l0_0 : List Int) (l0_1 : List Int) (a1 : Int) (l2 : List (List Int)) : Option (Bool) := (impl_VoltageValid.f k l0_0 l0_1 a1 l2).bind fun t339 => (if t339 = true then ((impl_cover.f k l0_0 l0_1 a1 l2).bind fun bt340 => ((impl_MapValid.f k bt340.1 bt340.2).bind fun t346 => (some t346))) else (some false))
set_option maxHeartbeats 8000000 in
set_option maxRecDepth 100000 in
theorem impl_CoverWhole.calls (k : Nat) (A0_0 : Option Addr) (c0_0 : Nat) (l0_0 : List Int) (A0_1 : Option Addr) (c0_1 : Nat) (l0_1 : List Int) (a1 : Int) (A2 : Option Addr) (c2 : Nat) (l2 : List (List Int)) (r : Bool) (w : World) (hr0_0 : Kd.C (Kd.int .i64) w A0_0 l0_0.length l0_0) (hc0_0 : l0_0.length ≤ c0_0) (hr0_1 : Kd.C (Kd.int .i64) w A0_1 l0_1.length l0_1) (hc0_1 : l0_1.length ≤ c0_1) (hr2 : Kd.C (Kd.slice 3 (Kd.int .i64)) w A2 l2.length l2) (hc2 : l2.length ≤ c2) (h : impl_CoverWhole.f k l0_0 l0_1 a1 l2 = some r) :
    Calls Try.prog 12 #[.agg #[.slice A0_0 l0_0.length c0_0, .slice A0_1 l0_1.length c0_1], .int .i64 a1, .slice A2 l2.length c2] w fun e w' => e = .returned (.bool r) ∧ Below w.heap.size w w' := by
 have hu25 := Try.underlying25; have HR0_0 := A0_ hr0_0; have HC0_0 := A0_ hc0_0; clear hr0_0 hc0_0; have HR0_1 := A0_ hr0_1; have HC0_1 := A0_ hc0_1; clear hr0_1 hc0_1; have HR2 := A0_ hr2; have HC2 := A0_ hc2; clear hr2 hc2
 have HB := A0_ (Below.refl w.heap.size w)
 have H : ((impl_VoltageValid.f k l0_0 l0_1 a1 l2).bind fun t339 => (if t339 = true then ((impl_cover.f k l0_0 l0_1 a1 l2).bind fun bt340 => ((impl_MapValid.f k bt340.1 bt340.2).bind fun t346 => (some t346))) else (some false))) = some r := h
 clear h; obtain ⟨t339, A4, H⟩ := zbind H
 by_cases c5 : t339 = true
 ·subst c5
  rw [if_pos rfl] at H; obtain ⟨⟨t340, t343⟩, A6, H⟩ := zbind H; dsimp only at H; obtain ⟨t346, A7, H⟩ := zbind H; obtain rfl := sI H
  go_enter Try.func12, Try.ntmps12
  go_wp2_with (first | ((with_reducible refine gD (N := 3) rfl ?_); refine zX (N := 3) (cs := #[.slice A0_0 l0_0.length c0_0, .slice A0_1 l0_1.length c0_1]) (t := 25) ?_; intro gb338 hg w8 hbox hb; have BK338 := A0_ (hbox); have GW338 := zG hg HB; have GE338 := zG hg HB; replace HB := zB HB hb; clear hb hbox hg; have hcz9_0 := zc0 BK338; have hcz9_1 := zc1 BK338; have hfz9_0 := kF BK338.out 0; have hfz9_1 := kF BK338.out 1) | ((with_reducible refine gC (f := 53) rfl ?_); refine zJ (some 10) Try.func53 #[.agg #[.slice A0_0 l0_0.length c0_0, .slice A0_1 l0_1.length c0_1], .int .i64 a1, .slice A2 l2.length c2] ?_; (with_reducible refine (impl_VoltageValid.calls k _ _ l0_0 _ _ l0_1 a1 _ _ l2 true _ ?side1 ?side2 ?side3 ?side4 ?side5 ?side6 A4.out).mono ?_); (case side1 => exact zC HR0_0 HB); (case side2 => exact HC0_0.out); (case side3 => exact zC HR0_1 HB); (case side4 => exact HC0_1.out); (case side5 => exact zC HR2 HB); (case side6 => exact HC2.out); rintro e w10 ⟨rfl, hb⟩; refine ⟨_, rfl, ?_⟩; replace BK338 := zK BK338 hb; replace HB := zB HB hb; (try clear hb); have hcz11_0 := zc0 BK338; have hcz11_1 := zc1 BK338; have hfz11_0 := kF BK338.out 0; have hfz11_1 := kF BK338.out 1) | (go_at_call 55; (with_reducible refine (impl_cover.calls k _ _ l0_0 _ _ l0_1 a1 _ _ l2 t340 t343 _ ?side1 ?side2 ?side3 ?side4 ?side5 ?side6 A6.out).mono ?_); (case side1 => exact zC HR0_0 HB); (case side2 => exact HC0_0.out); (case side3 => exact zC HR0_1 HB); (case side4 => exact HC0_1.out); (case side5 => exact zC HR2 HB); (case side6 => exact HC2.out); rintro e w12 ⟨v341, v344, rfl, ho0, ho1, hb⟩; have HO342 := A0_ (rL ho0 (bZ (zB_ HB))); have HO345 := A0_ (rL ho1 (bZ (zB_ HB))); replace BK338 := zK BK338 hb; replace HB := zB HB hb; (try clear hb); (try clear ho0); (try clear ho1); obtain ⟨Ao13, co13, eo13⟩ := rS HO342.out; subst eo13; obtain ⟨Ao14, co14, eo14⟩ := rS HO345.out; subst eo14) | (go_at_call 54; (with_reducible refine (impl_MapValid.calls k (fun k_ => some k_ = (.slice Ao13 t340.length co13 : Value).ownBlock) _ _ t340 (fun k_ => some k_ = (.slice Ao14 t343.length co14 : Value).ownBlock) _ _ t343 t346 _ ?side1 ?side2 A7.out).mono ?_); (case side1 => exact Kd.R_V (Kd.R_tight rfl (rY (HO342.out) BK338.out (by decide)))); (case side2 => exact Kd.R_V (Kd.R_tight rfl (rY (HO345.out) BK338.out (by decide)))); rintro e w15 ⟨rfl, hb⟩; replace HO342 := zR HO342 hb; replace HO345 := zR HO345 hb; replace BK338 := zK BK338 hb; replace HB := zB HB hb; (try clear hb)))
  go_ret
  exact ⟨by first | rfl | (simp [*] <;> rfl), zB_ HB⟩
 replace c5 := Bool.eq_false_iff.mpr c5; subst c5
 rw [if_neg (show ¬ (false = true) by decide)] at H
 obtain rfl := sI H
 go_enter Try.func12, Try.ntmps12
 go_wp2_with (first | ((with_reducible refine gD (N := 3) rfl ?_); refine zX (N := 3) (cs := #[.slice A0_0 l0_0.length c0_0, .slice A0_1 l0_1.length c0_1]) (t := 25) ?_; intro gb338 hg w16 hbox hb; have BK338 := A0_ (hbox); have GW338 := zG hg HB; have GE338 := zG hg HB; replace HB := zB HB hb; clear hb hbox hg; have hcz17_0 := zc0 BK338; have hcz17_1 := zc1 BK338; have hfz17_0 := kF BK338.out 0; have hfz17_1 := kF BK338.out 1) | ((with_reducible refine gC (f := 53) rfl ?_); refine zJ (some 10) Try.func53 #[.agg #[.slice A0_0 l0_0.length c0_0, .slice A0_1 l0_1.length c0_1], .int .i64 a1, .slice A2 l2.length c2] ?_; (with_reducible refine (impl_VoltageValid.calls k _ _ l0_0 _ _ l0_1 a1 _ _ l2 false _ ?side1 ?side2 ?side3 ?side4 ?side5 ?side6 A4.out).mono ?_); (case side1 => exact zC HR0_0 HB); (case side2 => exact HC0_0.out); (case side3 => exact zC HR0_1 HB); (case side4 => exact HC0_1.out); (case side5 => exact zC HR2 HB); (case side6 => exact HC2.out); rintro e w18 ⟨rfl, hb⟩; refine ⟨_, rfl, ?_⟩; replace BK338 := zK BK338 hb; replace HB := zB HB hb; (try clear hb)))
 go_ret
 exact ⟨by first | rfl | (simp [*] <;> rfl), zB_ HB⟩

/-! ### impl_cyclesOf: function 68 -/
mutual
def impl_cyclesOf.l0 : Nat → List Int → List (List Int) → List Bool → Int → Int → Option ((List (List Int)))
  | 0, _, _, _, _, _ => none
  | k + 1, x0, x3, x4, x13, x14 => if x14 < x13 then (impl_cyclesOf.l1 k x0 x3 x4 (([] : List Int)) x14 x13 x14) else (some x3)
def impl_cyclesOf.l1 : Nat → List Int → List (List Int) → List Bool → List Int → Int → Int → Int → Option ((List (List Int)))
  | 0, _, _, _, _, _, _, _ => none
  | k + 1, x0, x3, x4, x6, x7, x13, x14 => if 0 ≤ x7 then (if x7 < (x4.length : Int) then (if rdOf false x4 x7 = true then (if (x6.length : Int) > 0 then (if x3.length < 5864062014805 then (impl_cyclesOf.l0 k x0 (x3 ++ [x6]) x4 x13 (wrap64 (x14 + 1))) else (none)) else (impl_cyclesOf.l0 k x0 x3 x4 x13 (wrap64 (x14 + 1)))) else (if x6.length < 17592186044416 then (if x7 < (x0.length : Int) then (impl_cyclesOf.l1 k x0 x3 (x4.set (x7 : Int).toNat true) (x6 ++ [x7]) (rd x0 x7) x13 x14) else (none)) else (none))) else (none)) else (none)
end
def impl_cyclesOf.f (k : Nat) (l0 : List Int) : Option ((List (List Int))) := if 0 ≤ (l0.length : Int) then (if ((l0.length : Int) : Int).toNat ≤ 281474976710656 then (impl_cyclesOf.l0 k l0 (([] : List (List Int))) (List.replicate ((l0.length : Int) : Int).toNat false) (l0.length : Int) 0) else (none)) else (none)
set_option maxHeartbeats 8000000 in
set_option maxRecDepth 100000 in
theorem impl_cyclesOf.calls (k : Nat) (A0 : Option Addr) (c0 : Nat) (l0 : List Int) (r : List (List Int)) (w : World) (hr0 : Kd.C (Kd.int .i64) w A0 l0.length l0) (hc0 : l0.length ≤ c0) (h : impl_cyclesOf.f k l0 = some r) :
    Calls Try.prog 68 #[.slice A0 l0.length c0] w fun e w' => ∃ v0_ : Value, e = .returned (v0_) ∧ Kd.S (Kd.slice 3 (Kd.int .i64)) 23 w' w.heap.size (fun _ => True) v0_ r ∧ Below w.heap.size w w' := by
 have HR0 := A0_ hr0; have HC0 := A0_ hc0; clear hr0 hc0
 have HB := A0_ (Below.refl w.heap.size w)
 have H : (if 0 ≤ (l0.length : Int) then (if ((l0.length : Int) : Int).toNat ≤ 281474976710656 then (impl_cyclesOf.l0 k l0 (([] : List (List Int))) (List.replicate ((l0.length : Int) : Int).toNat false) (l0.length : Int) 0) else (none)) else (none)) = some r := h
 clear h
 obtain ⟨y347, hy347⟩ : ∃ y_ : List (List Int), y_ = (([] : List (List Int))) := ⟨_, rfl⟩
 replace H : (if 0 ≤ (l0.length : Int) then (if ((l0.length : Int) : Int).toNat ≤ 281474976710656 then (impl_cyclesOf.l0 k l0 y347 (List.replicate ((l0.length : Int) : Int).toNat false) (l0.length : Int) 0) else (none)) else (none)) = some r := zH hy347 H
 have Ny347 := A0_ hy347; clear hy347
 by_cases c2 : 0 ≤ (l0.length : Int)
 ·rw [if_pos c2] at H
  have c2b0 := eq_true c2; have c2b1 := dT c2; clear c2
  by_cases c3 : ((l0.length : Int) : Int).toNat ≤ 281474976710656
  ·rw [if_pos c3] at H
   have c3b0 := eq_true c3; have c3b1 := dT c3; clear c3
   obtain ⟨y350, hy350⟩ : ∃ y_ : List Bool, y_ = (List.replicate ((l0.length : Int) : Int).toNat false) := ⟨_, rfl⟩
   replace H : (impl_cyclesOf.l0 k l0 y347 y350 (l0.length : Int) 0) = some r := zH hy350 H
   have Ny350 := A0_ hy350; clear hy350; have H' := A0_ H; clear H
   go_enter Try.func68, Try.ntmps68
   go_wp2_with (first | ((with_reducible refine gD (N := 8) rfl ?_); refine Kd.S_lit (Kd.slice 3 (Kd.int .i64)) _ 23 ?hg (N := 8) ?hd (xs := ([] : List (List Int))) (inner := []) (ok := fun _ => True) (okp := fun _ => True) ?hr ?hp (fun _ hk => hk) trivial (Below.refl _ _) (Nat.le_refl _) (by simp) ?_; (case hd => rfl); (case hg => rfl); (case hr => first | (go_simp; done) | (go_simp; rfl)); (case hp => exact (Reps.none _ _)); intro v348 w4 ho5 hb hg_ hnew_; clear hg_ hnew_; (first | rw [← Ny347.out] at ho5 | (simp only [Int.reduceToNat] at ho5; rw [← Ny347.out] at ho5)); have HO349 := A0_ (Kd.S_lower ho5 (bZ (zB_ HB))); replace HB := zB HB hb; clear hb ho5) | ((with_reducible refine gD (N := 11) rfl ?_); refine Kd.R_make Kd.bool _ 4 rfl (N := 11) rfl 60 _ _ rfl (l0.length : Int) rfl rfl Try.underlying60 (.bool false) 1 info4 rfl (by decide) (by omega) false (ok := fun _ => True) (okp := fun _ => True) rfl (fun _ hk => hk) trivial (zd) (Nat.le_trans (Nat.mul_le_mul_right _ (zd : (l0.length : Int).toNat ≤ 281474976710656)) (by omega)) (Below.refl _ _) (Nat.le_refl _) ?_; intro v351 w6 ho7 hb hg_ hnew_; clear hg_ hnew_; (first | rw [← Ny350.out] at ho7 | (simp only [Int.reduceToNat] at ho7; rw [← Ny350.out] at ho7)); replace HO349 := zS HO349 hb; have HO352 := A0_ (rL ho7 (bZ (zB_ HB))); replace HB := zB HB hb; clear hb ho7))
   go_loopg [3, 14] k (fun kq v3 v14 w' => ∃ (x3_1 : List (List Int)) (x4_1 : List Bool) (x14_1 : Int), v14 = .int .i64 x14_1 ∧ Aside0 (impl_cyclesOf.l0 kq l0 x3_1 x4_1 (l0.length : Int) x14_1 = some r) ∧ Aside0 (kq ≤ k) ∧ Aside0 (Kd.S (Kd.slice 3 (Kd.int .i64)) 23 w' w.heap.size (fun _ => True) v3 x3_1) ∧ Aside0 (Kd.R Kd.bool 4 w' w.heap.size (fun _ => True) v351 x4_1) ∧ Aside0 (Below w.heap.size w w'))
   case atStart => exact ⟨(y347), (y350), (0), zt, H', ⟨Nat.le_refl _⟩, ⟨zS_ HO349⟩, ⟨zR_ HO352⟩, ⟨zB_ HB⟩⟩
   case round =>
    clear H'; (try clear c2); (try clear c2b0); (try clear c2b1); (try clear p2); (try clear c3); (try clear c3b0); (try clear c3b1); (try clear c6); obtain ⟨x3_1, x4_1, x14_1, rfl, HA, HK1, HO_3, HO_4, HB⟩ := hrel
    cases gk with
    | zero => exact absurd HA.out (by simp [impl_cyclesOf.l0])
    | succ k1 =>
     have H := HA.out; clear HA; simp only [impl_cyclesOf.l0] at H
     by_cases c8 : x14_1 < (l0.length : Int)
     ·rw [if_pos c8] at H
      have c8b0 := dT c8; clear c8
      obtain ⟨y353, hy353⟩ : ∃ y_ : List Int, y_ = (([] : List Int)) := ⟨_, rfl⟩
      replace H : (impl_cyclesOf.l1 k1 l0 x3_1 x4_1 y353 x14_1 (l0.length : Int) x14_1) = some r := zH hy353 H
      have Ny353 := A0_ hy353; clear hy353; have H' := A0_ H; clear H
      go_wp2_with (first | ((with_reducible refine gD (N := 17) rfl ?_); refine Kd.R_lit (Kd.int .i64) _ 3 ?hg (N := 17) ?hd (xs := ([] : List Int)) (inner := []) (ok := fun _ => True) (okp := fun _ => True) ?hr ?hp (fun _ hk => hk) trivial (Below.refl _ _) (Nat.le_refl _) (by simp) ?_; (case hd => rfl); (case hg => rfl); (case hr => first | (go_simp; done) | (go_simp; rfl)); (case hp => exact (Reps.none _ _)); intro v354 w9 ho10 hb hg_ hnew_; clear hg_ hnew_; (first | rw [← Ny353.out] at ho10 | (simp only [Int.reduceToNat] at ho10; rw [← Ny353.out] at ho10)); replace HO_3 := A0_ (Kd.S_elder' (zS_ HO_3) (Kd.R_base ho10) hb); replace HO_4 := zR HO_4 hb; have HO355 := A0_ (rL ho10 (bZ (zB_ HB))); replace HB := zB HB hb; clear hb ho10))
      go_loopg [6, 7] k1 (fun kq v6 v7 w' => ∃ (x4_2 : List Bool) (x6_2 : List Int) (x7_2 : Int), v7 = .int .i64 x7_2 ∧ Aside0 (impl_cyclesOf.l1 kq l0 x3_1 x4_2 x6_2 x7_2 (l0.length : Int) x14_1 = some r) ∧ Aside0 (kq ≤ k1) ∧ Aside0 (Kd.S (Kd.slice 3 (Kd.int .i64)) 23 w' w.heap.size (fun k_ => some k_ ≠ (v6 : Value).ownBlock) u3 x3_1) ∧ Aside0 (Kd.R Kd.bool 4 w' w.heap.size (fun _ => True) v351 x4_2) ∧ Aside0 (Kd.R (Kd.int .i64) 3 w' w.heap.size (fun _ => True) v6 x6_2) ∧ Aside0 (Below w.heap.size w w'))
      case atStart => exact ⟨(x4_1), (y353), (x14_1), zt, H', ⟨Nat.le_refl _⟩, ⟨zmS HO_3 (fun _ hk => hk.2)⟩, ⟨zR_ HO_4⟩, ⟨zR_ HO355⟩, ⟨zB_ HB⟩⟩
      case round =>
       clear H'; (try clear c2); (try clear c2b0); (try clear c2b1); (try clear p2); (try clear c3); (try clear c3b0); (try clear c3b1); (try clear c6); (try clear c8); (try clear c8b0); (try clear p2); obtain ⟨x4_2, x6_2, x7_2, rfl, HA, HK2, HO_3, HO_4, HO_6, HB⟩ := hrel
       cases gk with
       | zero => exact absurd HA.out (by simp [impl_cyclesOf.l1])
       | succ k2 =>
        have H := HA.out; clear HA; simp only [impl_cyclesOf.l1] at H
        by_cases c11 : 0 ≤ x7_2
        ·rw [if_pos c11] at H
         have c11b0 := dT c11; clear c11
         by_cases c12 : x7_2 < (x4_2.length : Int)
         ·rw [if_pos c12] at H
          have c12b0 := dT c12; clear c12
          obtain ⟨bq13, hbq13⟩ : ∃ b_ : Bool, b_ = (rdOf false x4_2 x7_2) := ⟨_, rfl⟩
          replace H : (if bq13 = true then (if (x6_2.length : Int) > 0 then (if x3_1.length < 5864062014805 then (impl_cyclesOf.l0 k2 l0 (x3_1 ++ [x6_2]) x4_2 (l0.length : Int) (wrap64 (x14_1 + 1))) else (none)) else (impl_cyclesOf.l0 k2 l0 x3_1 x4_2 (l0.length : Int) (wrap64 (x14_1 + 1)))) else (if x6_2.length < 17592186044416 then (if x7_2 < (l0.length : Int) then (impl_cyclesOf.l1 k2 l0 x3_1 (x4_2.set (x7_2 : Int).toNat true) (x6_2 ++ [x7_2]) (rd l0 x7_2) (l0.length : Int) x14_1) else (none)) else (none))) = some r := by rw [← hbq13] at H; exact H
          have Nbq13 := A0_ hbq13; clear hbq13
          by_cases c14 : bq13 = true
          ·subst c14
           rw [if_pos rfl] at H
           by_cases c15 : (x6_2.length : Int) > 0
           ·rw [if_pos c15] at H
            have c15b0 : decide (0 < (x6_2.length : Int)) = true := dT c15
            have c15b1 : decide (0 < x6_2.length) = true := dT (by omega)
            clear c15
            by_cases c16 : x3_1.length < 5864062014805
            ·rw [if_pos c16] at H
             have LMc16 := A0_ c16; clear c16
             obtain ⟨y357, hy357⟩ : ∃ y_ : List (List Int), y_ = (x3_1 ++ [x6_2]) := ⟨_, rfl⟩
             replace H : (impl_cyclesOf.l0 k2 l0 y357 x4_2 (l0.length : Int) (wrap64 (x14_1 + 1))) = some r := zH hy357 H
             have Ny357 := A0_ hy357; clear hy357; have H' := A0_ H; clear H; obtain ⟨Ao17, co17, eo17⟩ := rS HO_4.out; subst eo17
             have p356 : 0 ≤ (x7_2 : Int) := zd
             have q356 : x7_2 < (x4_2.length : Int) := zd
             obtain ⟨ad356, e356, hx356_0⟩ := Kd.at_bool (rR HO_4.out).2.2 x7_2 p356 q356
             (try rw [← Nbq13.out] at hx356_0)
             cases e356
             replace p356 := eq_true p356; replace q356 := eq_true q356; obtain ⟨Ao18, co18, eo18⟩ := rS HO_6.out; subst eo18
             go_wp2_with (first | ((with_reducible refine gB (b := .append) (xs := #[.tmp 38, .tmp 40]) rfl ?_); at_builtin; refine Kd.S_append (Kd.slice 3 (Kd.int .i64)) (w0 := w) w.heap.size rfl (.tmp 38) (.tmp 40) 26 23 (.slice none 0 0) 24 rfl Try.underlying26 info23 rfl (by decide) (by omega) u3 x3_1 x6_2 [.slice Ao18 x6_2.length co18] (fun _ => True) (fun k_ => some k_ = (.slice Ao18 x6_2.length co18 : Value).ownBlock) rfl rfl ?aP (fun k_ hk_ => ((rM (ok' := fun k_ => ((fun _ => True)) k_ ∧ some k_ ≠ (u3 : Value).ownBlock) (Kd.R_apart' (HO_6.out) (Kd.S_typed HO_3.out) (by decide)) (fun k_ hk => ⟨trivial, hk.2⟩))).1 k_ hk_.symm) ?aF ?aO ?aB ?aS ?aL ?_; (case aP => exact Kd.M_row (rM (Kd.R_tight rfl (rM (ok' := fun k_ => ((fun _ => True)) k_ ∧ some k_ ≠ (u3 : Value).ownBlock) (Kd.R_apart' (HO_6.out) (Kd.S_typed HO_3.out) (by decide)) (fun k_ hk => ⟨trivial, hk.2⟩))) (fun _ h_ => h_))); (case aB => exact (zB_ HB)); (case aF => exact (fun _ _ => trivial)); (case aO => exact (zmS HO_3 (fun k_ hk => ⟨trivial, fun e_ => hk e_⟩))); (case aS => exact (bZ (zB_ HB))); (case aL => have := LMc16.out; omega); intro v358 w19 ho hb hg hat; rw [← Ny357.out] at ho; replace HO_4 := A0_ (Kd.R_over' (zR_ HO_4) (Kd.S_typed (zS_ HO_3)) (by decide) hg); replace HB := A0_ (hb); have HO359 := A0_ (ho); clear HO_3 HO_6 ho hb hg hat))
             go_roundg k2
             case measure => have := HK1.out; have := HK2.out; omega
             case rel => exact ⟨(y357), (x4_2), (wrap64 (x14_1 + 1)), zt, H', ⟨by have := HK1.out; have := HK2.out; omega⟩, ⟨zS_ HO359⟩, ⟨zR_ HO_4⟩, ⟨zB_ HB⟩⟩
            rw [if_neg c16] at H
            exact absurd H (by simp)
           rw [if_neg c15] at H
           have c15b0 : decide (0 < (x6_2.length : Int)) = false := dF c15
           have c15b1 : decide (0 < x6_2.length) = false := dF (by omega)
           clear c15; have H' := A0_ H; clear H; obtain ⟨Ao20, co20, eo20⟩ := rS HO_4.out; subst eo20
           have p356 : 0 ≤ (x7_2 : Int) := zd
           have q356 : x7_2 < (x4_2.length : Int) := zd
           obtain ⟨ad356, e356, hx356_0⟩ := Kd.at_bool (rR HO_4.out).2.2 x7_2 p356 q356
           (try rw [← Nbq13.out] at hx356_0)
           cases e356
           replace p356 := eq_true p356; replace q356 := eq_true q356; obtain ⟨Ao21, co21, eo21⟩ := rS HO_6.out; subst eo21
           go_wp2
           go_roundg k2
           case measure => have := HK1.out; have := HK2.out; omega
           case rel => exact ⟨(x3_1), (x4_2), (wrap64 (x14_1 + 1)), zt, H', ⟨by have := HK1.out; have := HK2.out; omega⟩, ⟨zmS HO_3 (fun _ hk => trivial)⟩, ⟨zR_ HO_4⟩, ⟨zB_ HB⟩⟩
          replace c14 := Bool.eq_false_iff.mpr c14; subst c14
          rw [if_neg (show ¬ (false = true) by decide)] at H
          obtain ⟨y360, hy360⟩ : ∃ y_ : List Bool, y_ = (x4_2.set (x7_2 : Int).toNat true) := ⟨_, rfl⟩
          replace H : (if x6_2.length < 17592186044416 then (if x7_2 < (l0.length : Int) then (impl_cyclesOf.l1 k2 l0 x3_1 y360 (x6_2 ++ [x7_2]) (rd l0 x7_2) (l0.length : Int) x14_1) else (none)) else (none)) = some r := zH hy360 H
          have Ny360 := A0_ hy360; clear hy360
          by_cases c23 : x6_2.length < 17592186044416
          ·rw [if_pos c23] at H
           have LMc23 := A0_ c23; clear c23
           obtain ⟨y361, hy361⟩ : ∃ y_ : List Int, y_ = (x6_2 ++ [x7_2]) := ⟨_, rfl⟩
           replace H : (if x7_2 < (l0.length : Int) then (impl_cyclesOf.l1 k2 l0 x3_1 y360 y361 (rd l0 x7_2) (l0.length : Int) x14_1) else (none)) = some r := zH hy361 H
           have Ny361 := A0_ hy361; clear hy361
           by_cases c24 : x7_2 < (l0.length : Int)
           ·rw [if_pos c24] at H
            have c24b0 := dT c24; clear c24; have H' := A0_ H; clear H; obtain ⟨Ao25, co25, eo25⟩ := rS HO_4.out; subst eo25
            have p356 : 0 ≤ (x7_2 : Int) := zd
            have q356 : x7_2 < (x4_2.length : Int) := zd
            obtain ⟨ad356, e356, hx356_0⟩ := Kd.at_bool (rR HO_4.out).2.2 x7_2 p356 q356
            (try rw [← Nbq13.out] at hx356_0)
            cases e356
            replace p356 := eq_true p356; replace q356 := eq_true q356
            have p22 : 0 ≤ (x7_2 : Int) := zd
            have q22 : (x7_2 : Int) < ((x4_2.length : Int) : Int) := zd
            obtain ⟨go22, co22, eo22, gb22, gl22, cl22, HG22⟩ := Kd.R_form HO_4.out (by omega)
            (first | cases eo22 | (injection eo22 with ea_ en_ ec_; (first | subst ea_ | (injection ea_ with ea_; subst ea_)); subst ec_; clear en_))
            have GB22 := A0_ gb22; have GG22 := A0_ HG22; clear gb22 gl22 HG22
            (first | simp only [add_plain] at hx356_0 | skip)
            obtain ⟨hx22_0, hf22_0⟩ := Kd.R_celln false HO_4.out (x7_2 : Int) p22 q22
            replace p22 := eq_true p22; replace q22 := eq_true q22
            have HP26 := Kd.R_putg HO_4.out (x7_2 : Int) true
            go_wp2_with (first | ((with_reducible refine gS (t := 4) (p := 30) rfl ?_); refine store_event (t := 4) (p := 30) (v := ?vo_w27) (w1 := (wr.setCell ⟨go22, (x7_2 : Int).toNat, none⟩ (.bool true))) ?hg ?ho ?hn ?hr ?_; (case ho => rfl); (case hg => rfl); (case hn => rfl); (case hr => first | (go_simp; done) | (go_simp; rfl)); intro w27 hw; have hg : wr.grownBy w27 (some go22) := (by rw [hw]; exact HP26.2); have hp_ : Kd.R Kd.bool 4 w27 w.heap.size (fun _ => True) (.slice (some ⟨go22, 0, none⟩) x4_2.length co25) y360 := (by rw [hw, Ny360.out]; exact HP26.1); clear HP26; replace HO_3 := A0_ (Kd.S_over' (v := (.slice (some ⟨go22, 0, none⟩) x4_2.length co25)) (zS_ HO_3) (Kd.R_typed HO_4.out) (by decide) hg); replace HO_6 := A0_ (Kd.R_over' (v := (.slice (some ⟨go22, 0, none⟩) x4_2.length co25)) (zR_ HO_6) (Kd.R_typed HO_4.out) (by decide) hg); replace HO_4 := A0_ (hp_); replace HB := A0_ ((by rw [hw]; exact bS (HB.out) GB22.out : Below w.heap.size w w27)); clear hg hw hp_) | ((with_reducible refine gB (b := .append) (xs := #[.tmp 31, .tmp 33]) rfl ?_); at_builtin; refine Kd.R_append (Kd.int .i64) (w0 := w) w.heap.size rfl (.tmp 31) (.tmp 33) 23 3 (.int .i64 0) 8 rfl Try.underlying23 info3 rfl (by decide) (by omega) u6 x6_2 x7_2 [.int .i64 x7_2] (fun _ => True) (fun _ => False) rfl rfl ?aP (fun _ hk => hk.elim) ?aF ?aO ?aB ?aS ?aL ?_; (case aP => exact rfl); (case aB => exact (zB_ HB)); (case aF => exact (fun _ _ => trivial)); (case aO => exact (zR_ HO_6)); (case aS => exact (bZ (zB_ HB))); (case aL => have := LMc23.out; omega); intro v362 w28 ho hb hg hat; rw [← Ny361.out] at ho; replace HO_3 := A0_ (Kd.S_after (ok := (fun _ => True)) (zmS HO_3 (fun _ hk => ⟨trivial, hk⟩)) hg hat); replace HO_4 := A0_ (Kd.R_over' (zR_ HO_4) (Kd.R_typed (zR_ HO_6)) (by decide) hg); replace HB := A0_ (hb); have HO363 := A0_ (ho); clear HO_6 ho hb hg hat; have p364 : 0 ≤ (x7_2 : Int) := zd; have q364 : x7_2 < (l0.length : Int) := zd; obtain ⟨ad364, e364, hx364_0⟩ := tI HR0.out x7_2 p364 q364; cases e364; try replace hx364_0 := (HB.out.cell (wL w _ hx364_0)).trans hx364_0; replace p364 := eq_true p364; replace q364 := eq_true q364))
            go_roundg k2
            case measure => have := HK1.out; have := HK2.out; omega
            case rel => exact ⟨(y360), (y361), (rd l0 x7_2), zt, H', ⟨by have := HK1.out; have := HK2.out; omega⟩, ⟨zmS HO_3 (fun _ hk => hk.2)⟩, ⟨zR_ HO_4⟩, ⟨zR_ HO363⟩, ⟨zB_ HB⟩⟩
           rw [if_neg c24] at H
           exact absurd H (by simp)
          rw [if_neg c23] at H
          exact absurd H (by simp)
         rw [if_neg c12] at H
         exact absurd H (by simp)
        rw [if_neg c11] at H
        exact absurd H (by simp)
     rw [if_neg c8] at H; have c8b0 := dF c8; clear c8; obtain rfl := sI H
     go_wp2
     go_ret
     exact ⟨_, by first | rfl | (simp [*] <;> rfl), zS_ HO_3, zB_ HB⟩
  rw [if_neg c3] at H
  exact absurd H (by simp)
 rw [if_neg c2] at H
 exact absurd H (by simp)

/-! ### impl_mul: function 69 -/
def impl_mul.l0 : Nat → List Int → List Int → List Int → Int → Int → Option (List Int)
  | 0, _, _, _, _, _ => none
  | k + 1, x1, x5, x11, x12, x13 => if x13 < x12 then (if 0 ≤ x13 then (if x13 < (x11.length : Int) then (if 0 ≤ (rd x11 x13) then (if (rd x11 x13) < (x1.length : Int) then (if x13 < (x5.length : Int) then (impl_mul.l0 k x1 (x5.set (x13 : Int).toNat (rd x1 (rd x11 x13))) x11 x12 (wrap64 (x13 + 1))) else (none)) else (none)) else (none)) else (none)) else (none)) else (some x5)
def impl_mul.f (k : Nat) (l0 : List Int) (l1 : List Int) : Option (List Int) := if 0 ≤ (l0.length : Int) then (if ((l0.length : Int) : Int).toNat ≤ 35184372088832 then (impl_mul.l0 k l1 (List.replicate ((l0.length : Int) : Int).toNat 0) l0 (l0.length : Int) 0) else (none)) else (none)
set_option maxHeartbeats 8000000 in
set_option maxRecDepth 100000 in
theorem impl_mul.calls (k : Nat) (A0 : Option Addr) (c0 : Nat) (l0 : List Int) (A1 : Option Addr) (c1 : Nat) (l1 : List Int) (r : List Int) (w : World) (hr0 : Kd.C (Kd.int .i64) w A0 l0.length l0) (hc0 : l0.length ≤ c0) (hr1 : Kd.C (Kd.int .i64) w A1 l1.length l1) (hc1 : l1.length ≤ c1) (h : impl_mul.f k l0 l1 = some r) :
    Calls Try.prog 69 #[.slice A0 l0.length c0, .slice A1 l1.length c1] w fun e w' => ∃ v0_ : Value, e = .returned (v0_) ∧ Kd.R (Kd.int .i64) 3 w' w.heap.size (fun _ => True) v0_ r ∧ Below w.heap.size w w' := by
 have HR0 := A0_ hr0; have HC0 := A0_ hc0; clear hr0 hc0; have HR1 := A0_ hr1; have HC1 := A0_ hc1; clear hr1 hc1
 have HB := A0_ (Below.refl w.heap.size w)
 have H : (if 0 ≤ (l0.length : Int) then (if ((l0.length : Int) : Int).toNat ≤ 35184372088832 then (impl_mul.l0 k l1 (List.replicate ((l0.length : Int) : Int).toNat 0) l0 (l0.length : Int) 0) else (none)) else (none)) = some r := h
 clear h
 by_cases c3 : 0 ≤ (l0.length : Int)
 ·rw [if_pos c3] at H
  have c3b0 := eq_true c3; have c3b1 := dT c3; clear c3
  by_cases c4 : ((l0.length : Int) : Int).toNat ≤ 35184372088832
  ·rw [if_pos c4] at H
   have c4b0 := eq_true c4; have c4b1 := dT c4; clear c4
   obtain ⟨y365, hy365⟩ : ∃ y_ : List Int, y_ = (List.replicate ((l0.length : Int) : Int).toNat 0) := ⟨_, rfl⟩
   replace H : (impl_mul.l0 k l1 y365 l0 (l0.length : Int) 0) = some r := zH hy365 H
   have Ny365 := A0_ hy365; clear hy365; have H' := A0_ H; clear H
   go_enter Try.func69, Try.ntmps69
   go_wp2_with (first | ((with_reducible refine gD (N := 10) rfl ?_); refine Kd.R_make (Kd.int .i64) _ 3 rfl (N := 10) rfl 23 _ _ rfl (l0.length : Int) rfl rfl Try.underlying23 (.int .i64 0) 8 info3 rfl (by decide) (by omega) 0 (ok := fun _ => True) (okp := fun _ => True) rfl (fun _ hk => hk) trivial (zd) (Nat.le_trans (Nat.mul_le_mul_right _ (zd : (l0.length : Int).toNat ≤ 35184372088832)) (by omega)) (Below.refl _ _) (Nat.le_refl _) ?_; intro v366 w5 ho6 hb hg_ hnew_; clear hg_ hnew_; (first | rw [← Ny365.out] at ho6 | (simp only [Int.reduceToNat] at ho6; rw [← Ny365.out] at ho6)); have HO367 := A0_ (rL ho6 (bZ (zB_ HB))); replace HB := zB HB hb; clear hb ho6))
   go_loopg [13] k (fun kq v13 w' => ∃ (x5_1 : List Int) (x13_1 : Int), v13 = .int .i64 x13_1 ∧ Aside0 (impl_mul.l0 kq l1 x5_1 l0 (l0.length : Int) x13_1 = some r) ∧ Aside0 (kq ≤ k) ∧ Aside0 (Kd.R (Kd.int .i64) 3 w' w.heap.size (fun _ => True) v366 x5_1) ∧ Aside0 (Below w.heap.size w w'))
   case atStart => exact ⟨(y365), (0), zt, H', ⟨Nat.le_refl _⟩, ⟨zR_ HO367⟩, ⟨zB_ HB⟩⟩
   case round =>
    clear H'; (try clear c1); (try clear p2); (try clear c3); (try clear c3b0); (try clear c3b1); (try clear c4); (try clear c4b0); (try clear c4b1); (try clear c6); obtain ⟨x5_1, x13_1, rfl, HA, HK1, HO_5, HB⟩ := hrel
    cases gk with
    | zero => exact absurd HA.out (by simp [impl_mul.l0])
    | succ k1 =>
     have H := HA.out; clear HA; simp only [impl_mul.l0] at H
     by_cases c7 : x13_1 < (l0.length : Int)
     ·rw [if_pos c7] at H
      have c7b0 := dT c7; clear c7
      by_cases c8 : 0 ≤ x13_1
      ·rw [if_pos c8] at H
       have c8b0 := dT c8; clear c8
       by_cases c9 : x13_1 < (l0.length : Int)
       ·rw [if_pos c9] at H
        have c9b0 := dT c9; clear c9
        by_cases c10 : 0 ≤ (rd l0 x13_1)
        ·rw [if_pos c10] at H
         have c10b0 := dT c10; clear c10
         by_cases c11 : (rd l0 x13_1) < (l1.length : Int)
         ·rw [if_pos c11] at H
          have c11b0 := dT c11; clear c11
          by_cases c12 : x13_1 < (x5_1.length : Int)
          ·rw [if_pos c12] at H
           have c12b0 := dT c12; clear c12
           obtain ⟨y370, hy370⟩ : ∃ y_ : List Int, y_ = (x5_1.set (x13_1 : Int).toNat (rd l1 (rd l0 x13_1))) := ⟨_, rfl⟩
           replace H : (impl_mul.l0 k1 l1 y370 l0 (l0.length : Int) (wrap64 (x13_1 + 1))) = some r := zH hy370 H
           have Ny370 := A0_ hy370; clear hy370; have H' := A0_ H; clear H
           have p368 : 0 ≤ (x13_1 : Int) := zd
           have q368 : x13_1 < (l0.length : Int) := zd
           obtain ⟨ad368, e368, hx368_0⟩ := tI HR0.out x13_1 p368 q368
           cases e368
           try replace hx368_0 := (HB.out.cell (wL w _ hx368_0)).trans hx368_0
           replace p368 := eq_true p368; replace q368 := eq_true q368
           have p369 : 0 ≤ ((rd l0 x13_1) : Int) := zd
           have q369 : (rd l0 x13_1) < (l1.length : Int) := zd
           obtain ⟨ad369, e369, hx369_0⟩ := tI HR1.out (rd l0 x13_1) p369 q369
           cases e369
           try replace hx369_0 := (HB.out.cell (wL w _ hx369_0)).trans hx369_0
           replace p369 := eq_true p369; replace q369 := eq_true q369
           have p13 : 0 ≤ (x13_1 : Int) := zd
           have q13 : (x13_1 : Int) < ((x5_1.length : Int) : Int) := zd
           obtain ⟨go13, co13, eo13, gb13, gl13, cl13, HG13⟩ := Kd.R_form HO_5.out (by omega)
           (first | cases eo13 | (injection eo13 with ea_ en_ ec_; (first | subst ea_ | (injection ea_ with ea_; subst ea_)); subst ec_; clear en_))
           have GB13 := A0_ gb13; have GG13 := A0_ HG13; clear gb13 gl13 HG13
           obtain ⟨hx13_0, hf13_0⟩ := Kd.R_celln 0 HO_5.out (x13_1 : Int) p13 q13
           replace p13 := eq_true p13; replace q13 := eq_true q13
           have HP14 := Kd.R_putg HO_5.out (x13_1 : Int) (rd l1 (rd l0 x13_1))
           go_wp2_with (first | ((with_reducible refine gS (t := 3) (p := 24) rfl ?_); refine store_event (t := 3) (p := 24) (v := ?vo_w15) (w1 := (wr.setCell ⟨go13, (x13_1 : Int).toNat, none⟩ (.int .i64 (rd l1 (rd l0 x13_1))))) ?hg ?ho ?hn ?hr ?_; (case ho => rfl); (case hg => rfl); (case hn => rfl); (case hr => first | (go_simp; done) | (go_simp; rfl)); intro w15 hw; have hg : wr.grownBy w15 (some go13) := (by rw [hw]; exact HP14.2); have hp_ : Kd.R (Kd.int .i64) 3 w15 w.heap.size (fun _ => True) (.slice (some ⟨go13, 0, none⟩) x5_1.length co13) y370 := (by rw [hw, Ny370.out]; exact HP14.1); clear HP14; replace HO_5 := A0_ (hp_); replace HB := A0_ ((by rw [hw]; exact bS (HB.out) GB13.out : Below w.heap.size w w15)); clear hg hw hp_))
           go_roundg k1
           case measure => have := HK1.out; omega
           case rel => exact ⟨(y370), (wrap64 (x13_1 + 1)), zt, H', ⟨by have := HK1.out; omega⟩, ⟨zR_ HO_5⟩, ⟨zB_ HB⟩⟩
          rw [if_neg c12] at H
          exact absurd H (by simp)
         rw [if_neg c11] at H
         exact absurd H (by simp)
        rw [if_neg c10] at H
        exact absurd H (by simp)
       rw [if_neg c9] at H
       exact absurd H (by simp)
      rw [if_neg c8] at H
      exact absurd H (by simp)
     rw [if_neg c7] at H; have c7b0 := dF c7; clear c7; obtain rfl := sI H
     go_wp2
     go_ret
     exact ⟨_, by first | rfl | (simp [*] <;> rfl), zR_ HO_5, zB_ HB⟩
  rw [if_neg c4] at H
  exact absurd H (by simp)
 rw [if_neg c3] at H
 exact absurd H (by simp)

/-! ### impl_winding: function 70 -/
def impl_winding.l0 : Nat → List (List Int) → List Int → List Int → Int → Int → List Int → List Int → Option (List Int)
  | 0, _, _, _, _, _, _, _ => none
  | k + 1, x2, x9, x14, x15, x16, x372000, x372001 => if x16 < x15 then (if 0 ≤ x16 then (if x16 < (x14.length : Int) then ((impl_along.f k x372000 x372001 x2 (rd x14 x16)).bind fun t376 => ((impl_mul.f k x9 t376).bind fun t379 => (impl_winding.l0 k x2 t379 x14 x15 (wrap64 (x16 + 1)) x372000 x372001))) else (none)) else (none)) else (some x9)
def impl_winding.f (k : Nat) (l0_0 : List Int) (l0_1 : List Int) (a1 : Int) (l2 : List (List Int)) (l3 : List Int) : Option (List Int) := (impl_still.f k a1).bind fun t372 => (impl_winding.l0 k l2 t372 l3 (l3.length : Int) 0 l0_0 l0_1)
set_option maxHeartbeats 8000000 in
set_option maxRecDepth 100000 in
theorem impl_winding.calls (k : Nat) (A0_0 : Option Addr) (c0_0 : Nat) (l0_0 : List Int) (A0_1 : Option Addr) (c0_1 : Nat) (l0_1 : List Int) (a1 : Int) (A2 : Option Addr) (c2 : Nat) (l2 : List (List Int)) (A3 : Option Addr) (c3 : Nat) (l3 : List Int) (r : List Int) (w : World) (hr0_0 : Kd.C (Kd.int .i64) w A0_0 l0_0.length l0_0) (hc0_0 : l0_0.length ≤ c0_0) (hr0_1 : Kd.C (Kd.int .i64) w A0_1 l0_1.length l0_1) (hc0_1 : l0_1.length ≤ c0_1) (hr2 : Kd.C (Kd.slice 3 (Kd.int .i64)) w A2 l2.length l2) (hc2 : l2.length ≤ c2) (hr3 : Kd.C (Kd.int .i64) w A3 l3.length l3) (hc3 : l3.length ≤ c3) (h : impl_winding.f k l0_0 l0_1 a1 l2 l3 = some r) :
    Calls Try.prog 70 #[.agg #[.slice A0_0 l0_0.length c0_0, .slice A0_1 l0_1.length c0_1], .int .i64 a1, .slice A2 l2.length c2, .slice A3 l3.length c3] w fun e w' => ∃ v0_ : Value, e = .returned (v0_) ∧ Kd.R (Kd.int .i64) 3 w' w.heap.size (fun _ => True) v0_ r ∧ Below w.heap.size w w' := by
 have hu25 := Try.underlying25; have HR0_0 := A0_ hr0_0; have HC0_0 := A0_ hc0_0; clear hr0_0 hc0_0; have HR0_1 := A0_ hr0_1; have HC0_1 := A0_ hc0_1; clear hr0_1 hc0_1; have HR2 := A0_ hr2; have HC2 := A0_ hc2; clear hr2 hc2; have HR3 := A0_ hr3; have HC3 := A0_ hc3; clear hr3 hc3
 have HB := A0_ (Below.refl w.heap.size w)
 have H : ((impl_still.f k a1).bind fun t372 => (impl_winding.l0 k l2 t372 l3 (l3.length : Int) 0 l0_0 l0_1)) = some r := h
 clear h; obtain ⟨t372, A5, H⟩ := zbind H; have H' := A0_ H; clear H
 go_enter Try.func70, Try.ntmps70
 go_wp2_with (first | ((with_reducible refine gD (N := 4) rfl ?_); refine zX (N := 4) (cs := #[.slice A0_0 l0_0.length c0_0, .slice A0_1 l0_1.length c0_1]) (t := 25) ?_; intro gb371 hg w6 hbox hb; have BK371 := A0_ (hbox); have GW371 := zG hg HB; have GE371 := zG hg HB; replace HB := zB HB hb; clear hb hbox hg) | ((with_reducible refine gC (f := 65) rfl ?_); refine zJ (some 13) Try.func65 #[.int .i64 a1] ?_; (with_reducible refine (impl_still.calls k a1 t372 _ A5.out).mono ?_); rintro e w7 ⟨v373, rfl, ho0, hb⟩; refine ⟨_, rfl, ?_⟩; have HO374 := A0_ (rL ho0 (bZ (zB_ HB))); replace BK371 := zK BK371 hb; replace HB := zB HB hb; (try clear hb); (try clear ho0)))
 go_loopg [9, 16] k (fun kq v9 v16 w' => ∃ (x9_1 : List Int) (x16_1 : Int), v16 = .int .i64 x16_1 ∧ Aside0 (impl_winding.l0 kq l2 x9_1 l3 (l3.length : Int) x16_1 l0_0 l0_1 = some r) ∧ Aside0 (kq ≤ k) ∧ Aside0 (Kd.R (Kd.int .i64) 3 w' w.heap.size (fun _ => True) v9 x9_1) ∧ Aside0 (w'.heap[gb371]? = some (.cells #[(.slice A0_0 l0_0.length c0_0), (.slice A0_1 l0_1.length c0_1)] 25 (0, 0))) ∧ Aside0 (Below w.heap.size w w'))
 case atStart => exact ⟨(t372), (0), zt, H', ⟨Nat.le_refl _⟩, ⟨zR_ HO374⟩, ⟨zK_ BK371⟩, ⟨zB_ HB⟩⟩
 case round =>
  clear H'; (try clear c2); (try clear p2); (try clear c3); (try clear c6); (try clear c7); obtain ⟨x9_1, x16_1, rfl, HA, HK1, HO_9, BK371, HB⟩ := hrel
  cases gk with
  | zero => exact absurd HA.out (by simp [impl_winding.l0])
  | succ k1 =>
   have H := HA.out; clear HA; simp only [impl_winding.l0] at H
   by_cases c8 : x16_1 < (l3.length : Int)
   ·rw [if_pos c8] at H
    have c8b0 := dT c8; clear c8
    by_cases c9 : 0 ≤ x16_1
    ·rw [if_pos c9] at H
     have c9b0 := dT c9; clear c9
     by_cases c10 : x16_1 < (l3.length : Int)
     ·rw [if_pos c10] at H
      have c10b0 := dT c10; clear c10; obtain ⟨t376, A11, H⟩ := zbind H; obtain ⟨t379, A12, H⟩ := zbind H; have H' := A0_ H; clear H
      have p375 : 0 ≤ (x16_1 : Int) := zd
      have q375 : x16_1 < (l3.length : Int) := zd
      obtain ⟨ad375, e375, hx375_0⟩ := tI HR3.out x16_1 p375 q375
      cases e375
      try replace hx375_0 := (HB.out.cell (wL w _ hx375_0)).trans hx375_0
      replace p375 := eq_true p375; replace q375 := eq_true q375; have hcz13_0 := zc0 BK371; have hcz13_1 := zc1 BK371; have hfz13_0 := kF BK371.out 0; have hfz13_1 := kF BK371.out 1
      go_wp2_with (first | ((with_reducible refine gC (f := 62) rfl ?_); refine zJ (some 24) Try.func62 #[.agg #[.slice A0_0 l0_0.length c0_0, .slice A0_1 l0_1.length c0_1], .slice A2 l2.length c2, .int .i64 (rd l3 x16_1)] ?_; (with_reducible refine (impl_along.calls k1 _ _ l0_0 _ _ l0_1 (fun k_ => k_ < w.heap.size) _ _ l2 (rd l3 x16_1) t376 _ ?side1 ?side2 ?side3 ?side4 ?side5 A11.out).mono ?_); (case side1 => exact zC HR0_0 HB); (case side2 => exact HC0_0.out); (case side3 => exact zC HR0_1 HB); (case side4 => exact HC0_1.out); (case side5 => exact Kd.V_mk HC2.out (Kd.F_below (Kd.C_F (Kd.heap_slice 3 (Kd.heap_int .i64)) HR2.out) (zB_ HB))); rintro e w14 ⟨v377, rfl, ho0, hb⟩; refine ⟨_, rfl, ?_⟩; have HO378 := A0_ (Kd.V_lower (Kd.V_mono (ok' := fun k_ => some k_ ≠ (u9 : Value).ownBlock ∧ k_ ≠ gb371) ho0 (fun k_ hk_ => ⟨Or.elim hk_ (fun hs_ => fun e_ => Nat.not_le.2 hs_ (Kd.R_base HO_9.out k_ e_.symm)) (fun hn_ => (Kd.fresh' (rX (zR_ HO_9)) k_ hn_)), Or.elim hk_ (fun hs_ => fun e_ => Nat.not_le.2 hs_ (by rw [e_]; exact GW371.out)) (fun hn_ => (Kd.freshB (g := gb371) (o := .cells #[.slice A0_0 l0_0.length c0_0, .slice A0_1 l0_1.length c0_1] 25 (0, 0)) (zK_ BK371) k_ hn_))⟩)) (bZ (zB_ HB))); replace HO_9 := zR HO_9 hb; replace BK371 := zK BK371 hb; replace HB := zB HB hb; (try clear hb); (try clear ho0); obtain ⟨Ao15, co15, eo15⟩ := rS HO_9.out; subst eo15; obtain ⟨Ao16, co16, eo16⟩ := Kd.V_slice HO378.out; subst eo16) | ((with_reducible refine gC (f := 69) rfl ?_); refine zJ (some 25) Try.func69 #[.slice Ao15 x9_1.length co15, .slice Ao16 t376.length co16] ?_; (with_reducible refine (impl_mul.calls k1 _ _ x9_1 _ _ t376 t379 _ ?side1 ?side2 ?side3 ?side4 A12.out).mono ?_); (case side1 => exact zD HO_9); (case side2 => exact (rR HO_9.out).2.1); (case side3 => repeat (first | exact (Kd.V_reads' HO378.out).2.2 | (with_reducible refine cA ?_ _) | (with_reducible refine cN ?_ _) | (with_reducible refine cD ?_))); (case side4 => exact (Kd.V_reads' HO378.out).2.1); rintro e w17 ⟨v380, rfl, ho0, hb⟩; refine ⟨_, rfl, ?_⟩; replace HO378 := A0_ (Kd.V_elder' (by (with_reducible repeat (first | apply Kd.V_alloc | apply Kd.V_drewN | apply Kd.V_drew)); exact HO378.out) (Kd.R_base ho0) hb); have HO381 := A0_ (rL (Kd.R_new' ho0 (rX (zR_ HO_9))) (bZ (zB_ HB))); replace HO_9 := A0_ (Kd.R_elder' (zR_ HO_9) (Kd.R_base ho0) hb); replace BK371 := zK BK371 hb; replace HB := zB HB hb; (try clear hb); (try clear ho0)))
      go_roundg k1
      case measure => have := HK1.out; omega
      case rel => exact ⟨(t379), (wrap64 (x16_1 + 1)), zt, H', ⟨by have := HK1.out; omega⟩, ⟨zmR HO381 (fun _ hk => trivial)⟩, ⟨zK_ BK371⟩, ⟨zB_ HB⟩⟩
     rw [if_neg c10] at H
     exact absurd H (by simp)
    rw [if_neg c9] at H
    exact absurd H (by simp)
   rw [if_neg c8] at H; have c8b0 := dF c8; clear c8; obtain rfl := sI H
   go_wp2
   go_ret
   exact ⟨_, by first | rfl | (simp [*] <;> rfl), zR_ HO_9, zB_ HB⟩

/-! ### impl_CoverBranch: function 22 -/
def impl_CoverBranch.l0 : Nat → Int → List (List Int) → Int → List (List Int) → Int → Int → List Int → List Int → Option (Int)
  | 0, _, _, _, _, _, _, _, _ => none
  | k + 1, x1, x2, x7, x20, x21, x22, x383000, x383001 => if x22 < x21 then (if 0 ≤ x22 then (if x22 < (x20.length : Int) then ((impl_winding.f k x383000 x383001 x1 x2 (rd_L2 x20 x22)).bind fun t391 => ((impl_cyclesOf.f k t391).bind fun t394 => (impl_CoverBranch.l0 k x1 x2 (wrap64 (x7 + (wrap64 (x1 - (t394.length : Int))))) x20 x21 (wrap64 (x22 + 1)) x383000 x383001))) else (none)) else (none)) else (some x7)
def impl_CoverBranch.f (k : Nat) (l0_0 : List Int) (l0_1 : List Int) (a1 : Int) (l2 : List (List Int)) : Option (Int) := (impl_VoltageValid.f k l0_0 l0_1 a1 l2).bind fun t383 => (if t383 = true then ((impl_mul.f k l0_1 l0_0).bind fun t384 => ((impl_cyclesOf.f k t384).bind fun t387 => (impl_CoverBranch.l0 k a1 l2 0 t387 (t387.length : Int) 0 l0_0 l0_1))) else (some (-1)))
set_option maxHeartbeats 8000000 in
set_option maxRecDepth 100000 in
theorem impl_CoverBranch.calls (k : Nat) (A0_0 : Option Addr) (c0_0 : Nat) (l0_0 : List Int) (A0_1 : Option Addr) (c0_1 : Nat) (l0_1 : List Int) (a1 : Int) (A2 : Option Addr) (c2 : Nat) (l2 : List (List Int)) (r : Int) (w : World) (hr0_0 : Kd.C (Kd.int .i64) w A0_0 l0_0.length l0_0) (hc0_0 : l0_0.length ≤ c0_0) (hr0_1 : Kd.C (Kd.int .i64) w A0_1 l0_1.length l0_1) (hc0_1 : l0_1.length ≤ c0_1) (hr2 : Kd.C (Kd.slice 3 (Kd.int .i64)) w A2 l2.length l2) (hc2 : l2.length ≤ c2) (h : impl_CoverBranch.f k l0_0 l0_1 a1 l2 = some r) :
    Calls Try.prog 22 #[.agg #[.slice A0_0 l0_0.length c0_0, .slice A0_1 l0_1.length c0_1], .int .i64 a1, .slice A2 l2.length c2] w fun e w' => e = .returned (.int .i64 r) ∧ Below w.heap.size w w' := by
 have hu25 := Try.underlying25; have HR0_0 := A0_ hr0_0; have HC0_0 := A0_ hc0_0; clear hr0_0 hc0_0; have HR0_1 := A0_ hr0_1; have HC0_1 := A0_ hc0_1; clear hr0_1 hc0_1; have HR2 := A0_ hr2; have HC2 := A0_ hc2; clear hr2 hc2
 have HB := A0_ (Below.refl w.heap.size w)
 have H : ((impl_VoltageValid.f k l0_0 l0_1 a1 l2).bind fun t383 => (if t383 = true then ((impl_mul.f k l0_1 l0_0).bind fun t384 => ((impl_cyclesOf.f k t384).bind fun t387 => (impl_CoverBranch.l0 k a1 l2 0 t387 (t387.length : Int) 0 l0_0 l0_1))) else (some (-1)))) = some r := h
 clear h; obtain ⟨t383, A4, H⟩ := zbind H
 by_cases c5 : t383 = true
 ·subst c5
  rw [if_pos rfl] at H; obtain ⟨t384, A6, H⟩ := zbind H; obtain ⟨t387, A7, H⟩ := zbind H; have H' := A0_ H; clear H
  go_enter Try.func22, Try.ntmps22
  go_wp2_with (first | ((with_reducible refine gD (N := 3) rfl ?_); refine zX (N := 3) (cs := #[.slice A0_0 l0_0.length c0_0, .slice A0_1 l0_1.length c0_1]) (t := 25) ?_; intro gb382 hg w8 hbox hb; have BK382 := A0_ (hbox); have GW382 := zG hg HB; have GE382 := zG hg HB; replace HB := zB HB hb; clear hb hbox hg; have hcz9_0 := zc0 BK382; have hcz9_1 := zc1 BK382; have hfz9_0 := kF BK382.out 0; have hfz9_1 := kF BK382.out 1) | ((with_reducible refine gC (f := 53) rfl ?_); refine zJ (some 13) Try.func53 #[.agg #[.slice A0_0 l0_0.length c0_0, .slice A0_1 l0_1.length c0_1], .int .i64 a1, .slice A2 l2.length c2] ?_; (with_reducible refine (impl_VoltageValid.calls k _ _ l0_0 _ _ l0_1 a1 _ _ l2 true _ ?side1 ?side2 ?side3 ?side4 ?side5 ?side6 A4.out).mono ?_); (case side1 => exact zC HR0_0 HB); (case side2 => exact HC0_0.out); (case side3 => exact zC HR0_1 HB); (case side4 => exact HC0_1.out); (case side5 => exact zC HR2 HB); (case side6 => exact HC2.out); rintro e w10 ⟨rfl, hb⟩; refine ⟨_, rfl, ?_⟩; replace BK382 := zK BK382 hb; replace HB := zB HB hb; (try clear hb); have hcz11_0 := zc0 BK382; have hcz11_1 := zc1 BK382; have hfz11_0 := kF BK382.out 0; have hfz11_1 := kF BK382.out 1) | ((with_reducible refine gC (f := 69) rfl ?_); refine zJ (some 19) Try.func69 #[.slice A0_1 l0_1.length c0_1, .slice A0_0 l0_0.length c0_0] ?_; (with_reducible refine (impl_mul.calls k _ _ l0_1 _ _ l0_0 t384 _ ?side1 ?side2 ?side3 ?side4 A6.out).mono ?_); (case side1 => exact zC HR0_1 HB); (case side2 => exact HC0_1.out); (case side3 => exact zC HR0_0 HB); (case side4 => exact HC0_0.out); rintro e w12 ⟨v385, rfl, ho0, hb⟩; refine ⟨_, rfl, ?_⟩; have HO386 := A0_ (rL ho0 (bZ (zB_ HB))); replace BK382 := zK BK382 hb; replace HB := zB HB hb; (try clear hb); (try clear ho0); obtain ⟨Ao13, co13, eo13⟩ := rS HO386.out; subst eo13) | ((with_reducible refine gC (f := 68) rfl ?_); refine zJ (some 20) Try.func68 #[.slice Ao13 t384.length co13] ?_; (with_reducible refine (impl_cyclesOf.calls k _ _ t384 t387 _ ?side1 ?side2 A7.out).mono ?_); (case side1 => exact zD HO386); (case side2 => exact (rR HO386.out).2.1); rintro e w14 ⟨v388, rfl, ho0, hb⟩; refine ⟨_, rfl, ?_⟩; have HO389 := A0_ (Kd.S_lower (Kd.S_new' ho0 (rX (zR_ HO386))) (bZ (zB_ HB))); replace HO386 := zR HO386 hb; replace BK382 := zK BK382 hb; replace HB := zB HB hb; (try clear hb); (try clear ho0); obtain ⟨Ao15, co15, eo15⟩ := Kd.S_slice HO389.out; subst eo15))
  go_loopg [7, 22] k (fun kq v7 v22 w' => ∃ (x7_1 : Int) (x22_1 : Int), v7 = .int .i64 x7_1 ∧ v22 = .int .i64 x22_1 ∧ Aside0 (impl_CoverBranch.l0 kq a1 l2 x7_1 t387 (t387.length : Int) x22_1 l0_0 l0_1 = some r) ∧ Aside0 (kq ≤ k) ∧ Aside0 (Kd.S (Kd.slice 3 (Kd.int .i64)) 23 w' w.heap.size (fun _ => True) (.slice Ao15 t387.length co15) t387) ∧ Aside0 (w'.heap[gb382]? = some (.cells #[(.slice A0_0 l0_0.length c0_0), (.slice A0_1 l0_1.length c0_1)] 25 (0, 0))) ∧ Aside0 (Below w.heap.size w w'))
  case atStart => exact ⟨(0), (0), zt, zt, H', ⟨Nat.le_refl _⟩, ⟨zmS HO389 (fun _ hk => trivial)⟩, ⟨zK_ BK382⟩, ⟨zB_ HB⟩⟩
  case round =>
   clear H'; (try clear c2); (try clear p2); (try clear c5); (try clear c6); (try clear hcz11_0); (try clear hcz11_1); (try clear hcz9_0); (try clear hcz9_1); (try clear hfz11_0); (try clear hfz11_1); (try clear hfz9_0); (try clear hfz9_1); obtain ⟨x7_1, x22_1, rfl, rfl, HA, HK1, HO_20, BK382, HB⟩ := hrel
   cases gk with
   | zero => exact absurd HA.out (by simp [impl_CoverBranch.l0])
   | succ k1 =>
    have H := HA.out; clear HA; simp only [impl_CoverBranch.l0] at H
    by_cases c16 : x22_1 < (t387.length : Int)
    ·rw [if_pos c16] at H
     have c16b0 := dT c16; clear c16
     by_cases c17 : 0 ≤ x22_1
     ·rw [if_pos c17] at H
      have c17b0 := dT c17; clear c17
      by_cases c18 : x22_1 < (t387.length : Int)
      ·rw [if_pos c18] at H
       have c18b0 := dT c18; clear c18; obtain ⟨t391, A19, H⟩ := zbind H; obtain ⟨t394, A20, H⟩ := zbind H; have H' := A0_ H; clear H
       have p390 : 0 ≤ (x22_1 : Int) := zd
       have q390 : x22_1 < (t387.length : Int) := zd
       obtain ⟨ad390, A390_0, c390_0, e390, hx390_0, hl390_0, hi390_0⟩ := at_L2 (Kd.S_reads' HO_20.out).2.2 x22_1 p390 q390
       cases e390
       obtain ⟨ce390, hce390, hMe390, hcc390⟩ := Kd.S_get HO_20.out [] x22_1 p390 (by first | exact q390 | exact zd | (have e_ := (Kd.S_reads' HO_20.out).1; omega))
       obtain ⟨ve390_0, rfl, ge390_0⟩ := hMe390; have hv390_0 := hcc390 0 _ rfl
       rw [Nat.add_zero, show ((Kd.slice 3 (Kd.int .i64))).sz = 1 from rfl, Nat.mul_one] at hv390_0
       replace hv390_0 := sI (hv390_0.symm.trans hx390_0)
       rw [hv390_0] at ge390_0
       have HL390_0 := A0_ (show Kd.R (Kd.int .i64) 3 _ _ _ _ (rd_L2 t387 x22_1) from ge390_0)
       clear hv390_0 ge390_0 hcc390 hce390; have HR390_0 := A0_ hi390_0; have HC390_0 := A0_ hl390_0; clear hi390_0 hl390_0; replace p390 := eq_true p390; replace q390 := eq_true q390; have hcz21_0 := zc0 BK382; have hcz21_1 := zc1 BK382; have hfz21_0 := kF BK382.out 0; have hfz21_1 := kF BK382.out 1
       go_wp2_with (first | ((with_reducible refine gC (f := 70) rfl ?_); refine zJ (some 32) Try.func70 #[.agg #[.slice A0_0 l0_0.length c0_0, .slice A0_1 l0_1.length c0_1], .int .i64 a1, .slice A2 l2.length c2, .slice A390_0 (rd_L2 t387 x22_1).length c390_0] ?_; (with_reducible refine (impl_winding.calls k1 _ _ l0_0 _ _ l0_1 a1 _ _ l2 _ _ (rd_L2 t387 x22_1) t391 _ ?side1 ?side2 ?side3 ?side4 ?side5 ?side6 ?side7 ?side8 A19.out).mono ?_); (case side1 => exact zC HR0_0 HB); (case side2 => exact HC0_0.out); (case side3 => exact zC HR0_1 HB); (case side4 => exact HC0_1.out); (case side5 => exact zC HR2 HB); (case side6 => exact HC2.out); (case side7 => repeat (first | exact (by repeat (first | (with_reducible exact HR390_0.out) | (with_reducible refine cA ?_ _) | (with_reducible refine cN ?_ _) | (with_reducible refine cD ?_) | exact HR390_0.out)) | (with_reducible refine cA ?_ _) | (with_reducible refine cN ?_ _) | (with_reducible refine cD ?_))); (case side8 => exact HC390_0.out); rintro e w22 ⟨v392, rfl, ho0, hb⟩; refine ⟨_, rfl, ?_⟩; replace HO_20 := A0_ (Kd.S_elder' (zS_ HO_20) (Kd.R_base ho0) hb); have HO393 := A0_ (rL (Kd.R_new' ho0 (rX (zR_ HL390_0))) (bZ (zB_ HB))); replace HL390_0 := A0_ (Kd.R_elder' (zR_ HL390_0) (Kd.R_base ho0) hb); replace BK382 := zK BK382 hb; replace HR390_0 := A0_ (cB (by repeat (first | (with_reducible exact HR390_0.out) | (with_reducible refine cA ?_ _) | (with_reducible refine cN ?_ _) | (with_reducible refine cD ?_) | exact HR390_0.out)) hb); replace HB := zB HB hb; (try clear hb); (try clear ho0); obtain ⟨Ao23, co23, eo23⟩ := rS HO393.out; subst eo23) | ((with_reducible refine gC (f := 68) rfl ?_); refine zJ (some 33) Try.func68 #[.slice Ao23 t391.length co23] ?_; (with_reducible refine (impl_cyclesOf.calls k1 _ _ t391 t394 _ ?side1 ?side2 A20.out).mono ?_); (case side1 => exact zD HO393); (case side2 => exact (rR HO393.out).2.1); rintro e w24 ⟨v395, rfl, ho0, hb⟩; refine ⟨_, rfl, ?_⟩; have HO396 := A0_ (Kd.S_lower (Kd.S_new' (Kd.S_new' (Kd.S_new' ho0 (Kd.S_lt (zS_ HO_20))) (rX (zR_ HL390_0))) (rX (zR_ HO393))) (bZ (zB_ HB))); replace HO_20 := A0_ (Kd.S_elder' (zS_ HO_20) (Kd.S_base ho0) hb); replace HL390_0 := zR HL390_0 hb; replace HO393 := zR HO393 hb; replace BK382 := zK BK382 hb; replace HR390_0 := A0_ (cB (by repeat (first | (with_reducible exact HR390_0.out) | (with_reducible refine cA ?_ _) | (with_reducible refine cN ?_ _) | (with_reducible refine cD ?_) | exact HR390_0.out)) hb); replace HB := zB HB hb; (try clear hb); (try clear ho0); obtain ⟨Ao25, co25, eo25⟩ := Kd.S_slice HO396.out; subst eo25))
       go_roundg k1
       case measure => have := HK1.out; omega
       case rel => exact ⟨(wrap64 (x7_1 + (wrap64 (a1 - (t394.length : Int))))), (wrap64 (x22_1 + 1)), zt, zt, H', ⟨by have := HK1.out; omega⟩, ⟨zmS HO_20 (fun _ hk => trivial)⟩, ⟨zK_ BK382⟩, ⟨zB_ HB⟩⟩
      rw [if_neg c18] at H
      exact absurd H (by simp)
     rw [if_neg c17] at H
     exact absurd H (by simp)
    rw [if_neg c16] at H; have c16b0 := dF c16; clear c16; obtain rfl := sI H
    go_wp2
    go_ret
    exact ⟨by first | rfl | (simp [*] <;> rfl), zB_ HB⟩
 replace c5 := Bool.eq_false_iff.mpr c5; subst c5
 rw [if_neg (show ¬ (false = true) by decide)] at H
 obtain rfl := sI H
 go_enter Try.func22, Try.ntmps22
 go_wp2_with (first | ((with_reducible refine gD (N := 3) rfl ?_); refine zX (N := 3) (cs := #[.slice A0_0 l0_0.length c0_0, .slice A0_1 l0_1.length c0_1]) (t := 25) ?_; intro gb382 hg w26 hbox hb; have BK382 := A0_ (hbox); have GW382 := zG hg HB; have GE382 := zG hg HB; replace HB := zB HB hb; clear hb hbox hg; have hcz27_0 := zc0 BK382; have hcz27_1 := zc1 BK382; have hfz27_0 := kF BK382.out 0; have hfz27_1 := kF BK382.out 1) | ((with_reducible refine gC (f := 53) rfl ?_); refine zJ (some 13) Try.func53 #[.agg #[.slice A0_0 l0_0.length c0_0, .slice A0_1 l0_1.length c0_1], .int .i64 a1, .slice A2 l2.length c2] ?_; (with_reducible refine (impl_VoltageValid.calls k _ _ l0_0 _ _ l0_1 a1 _ _ l2 false _ ?side1 ?side2 ?side3 ?side4 ?side5 ?side6 A4.out).mono ?_); (case side1 => exact zC HR0_0 HB); (case side2 => exact HC0_0.out); (case side3 => exact zC HR0_1 HB); (case side4 => exact HC0_1.out); (case side5 => exact zC HR2 HB); (case side6 => exact HC2.out); rintro e w28 ⟨rfl, hb⟩; refine ⟨_, rfl, ?_⟩; replace BK382 := zK BK382 hb; replace HB := zB HB hb; (try clear hb)))
 go_ret
 exact ⟨by first | rfl | (simp [*] <;> rfl), zB_ HB⟩

end Go.Proofs.Ytmegggomhjgehaa.PFnCoverGenus
