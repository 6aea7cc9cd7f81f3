-- Made by a program of this session (wip/tools) out of the loaded program; not trusted: Lean checks it.
import Derived.Test.YtmegggomhjgehaaPFnDeckx0
import Derived.Test.YtmegggomhjgehaaPFnDeckx5
import Derived.Test.YtmegggomhjgehaaPFnDeckx10
import Derived.Test.YtmegggomhjgehaaPFnDeckx11
-- packed
namespace Go.Proofs.Ytmegggomhjgehaa.PFnDeck
open Go.RowKit Go.Proofs.YtmegggomhjgehaaW.PrintWords Go.Proofs.YtmegggomhjgehaaW.PrintLast Go.Proofs.YtmegggomhjgehaaW.PrintMore
attribute [local go_sem] max2_int min2_int max_two min_two max_three min_three max_four min_four   -- for this text's walks alone
set_option linter.unusedVariables false
set_option linter.unusedSimpArgs false

/-! ### spec_CoverDeck: function 28 -/
mutual
def spec_CoverDeck.j0 : Nat → Int → List (List Int) → Bool → Option (Int)
  | 0, _, _, _ => none
  | k + 1, x1, x2, x19 => if x19 = true then (some (-1)) else ((spec_l1Same.f k x1).bind fun t447 => (spec_CoverDeck.l0 k x2 0 t447))
def spec_CoverDeck.l0 : Nat → List (List Int) → Int → List Int → Option (Int)
  | 0, _, _, _ => none
  | k + 1, x2, x7, x8 => if (x8.length : Int) > 0 then (spec_CoverDeck.l1 k x2 x7 x8 true 0) else (some x7)
def spec_CoverDeck.l1 : Nat → List (List Int) → Int → List Int → Bool → Int → Option (Int)
  | 0, _, _, _, _, _ => none
  | k + 1, x2, x7, x8, x9, x10 => if x10 < (x2.length : Int) then (if x9 = true then (if 0 ≤ x10 then ((spec_l1Mul.f k x8 (rd_L1 x2 x10)).bind fun t451 => ((spec_l1Mul.f k (rd_L1 x2 x10) x8).bind fun t455 => ((spec_l2Order.f k t451 t455).bind fun t458 => (spec_CoverDeck.l1 k x2 x7 x8 (t458 == 0) (wrap64 (x10 + 1)))))) else (none)) else (spec_CoverDeck.l1 k x2 x7 x8 false (wrap64 (x10 + 1)))) else (if x9 = true then ((spec_l3Next.f k x8).bind fun t459 => (spec_CoverDeck.l0 k x2 (wrap64 (x7 + 1)) t459)) else ((spec_l3Next.f k x8).bind fun t462 => (spec_CoverDeck.l0 k x2 x7 t462)))
end
def spec_CoverDeck.f (k : Nat) (l0_0 : List Int) (l0_1 : List Int) (a1 : Int) (l2 : List (List Int)) : Option (Int) := (spec_VoltageValid.f k l0_0 l0_1 a1 l2).bind fun t446 => (if t446 = true then (spec_CoverDeck.j0 k a1 l2 (decide (a1 > 4))) else (spec_CoverDeck.j0 k a1 l2 true))
def spec_CoverDeck.T11 : Bool × List (List Nat × List Nat) := (true, [([], []), ([0], [0]), ([1], [1]), ([1], [1]), ([1], [1]), ([3, 4, 1], [1, 3, 4]), ([5, 1], [1, 5]), ([2, 6, 1, 1], [1, 2, 6]), ([1], [1]), ([1], [1]), ([8, 9, 1], [1, 8, 9]), ([10, 1], [1, 10]), ([1], [1]), ([11, 12, 7, 1], [1, 11, 12]), ([7, 13, 13, 1], [1, 7, 13]), ([14, 1], [1, 14]), ([1, 15], [1, 15]), ([16, 14, 0, 1, 2, 3, 4, 5, 6, 7, 8, 9, 10, 11, 12, 13, 14, 15, 16], [0, 16])])
def spec_CoverDeck.B11 : List Nat := [0, 1, 3, 3, 3, 27, 59, 127, 3, 3, 771, 1795, 3, 8191, 16383, 32767, 65535, 131071]
theorem spec_CoverDeck.tab11 : rtab .any (opsOf Try.f28 11) = spec_CoverDeck.T11 := by kernel_rfl
theorem spec_CoverDeck.bits11 : waitsOk spec_CoverDeck.T11.2 spec_CoverDeck.B11 = true := by kernel_rfl
set_option maxHeartbeats 8000000 in
set_option maxRecDepth 100000 in
theorem spec_CoverDeck.calls (k : Nat) (A0_0 : Option Addr) (c0_0 : Nat) (l0_0 : List Int) (A0_1 : Option Addr) (c0_1 : Nat) (l0_1 : List Int) (a1 : Int) (A2 : Option Addr) (c2 : Nat) (l2 : List (List Int)) (r : Int) (w : World) (hr0_0 : Kd.C (Kd.int .i64) w A0_0 l0_0.length l0_0) (hc0_0 : l0_0.length ≤ c0_0) (hr0_1 : Kd.C (Kd.int .i64) w A0_1 l0_1.length l0_1) (hc0_1 : l0_1.length ≤ c0_1) (hr2 : Kd.C (Kd.slice 3 (Kd.int .i64)) w A2 l2.length l2) (hc2 : l2.length ≤ c2) (h : spec_CoverDeck.f k l0_0 l0_1 a1 l2 = some r) :
    Calls Try.prog 28 #[.agg #[.slice A0_0 l0_0.length c0_0, .slice A0_1 l0_1.length c0_1], .int .i64 a1, .slice A2 l2.length c2] w fun e w' => e = .returned (.int .i64 r) ∧ Below w.heap.size w w' := by
 have hu25 := Try.underlying25; have HR0_0 := A0_ hr0_0; have HC0_0 := A0_ hc0_0; clear hr0_0 hc0_0; have HR0_1 := A0_ hr0_1; have HC0_1 := A0_ hc0_1; clear hr0_1 hc0_1; have HR2 := A0_ hr2; have HC2 := A0_ hc2; clear hr2 hc2
 have HB := A0_ (Below.refl w.heap.size w)
 have H : ((spec_VoltageValid.f k l0_0 l0_1 a1 l2).bind fun t446 => (if t446 = true then (spec_CoverDeck.j0 k a1 l2 (decide (a1 > 4))) else (spec_CoverDeck.j0 k a1 l2 true))) = some r := h
 clear h; have HC4 := A0_ H; clear H
 go_enter Try.func28, Try.ntmps28
 go_upto_region 1 with (first | ((with_reducible refine gD (N := 3) rfl ?_); refine zX (N := 3) (cs := #[.slice A0_0 l0_0.length c0_0, .slice A0_1 l0_1.length c0_1]) (t := 25) ?_; intro gb445 hg w5 hbox hb; have BK445 := A0_ (hbox); have GW445 := zG hg HB; have GE445 := zG hg HB; replace HB := zB HB hb; clear hb hbox hg))
 (try simp only [Act.put, List.setIfInBounds_toArray, List.set_cons_zero, List.set_cons_succ])
 go_cut [19] (fun v19 wc => ∃ (kq : Nat) (x19_3 : Bool), v19 = .bool x19_3 ∧ Aside0 (spec_CoverDeck.j0 kq a1 l2 x19_3 = some r) ∧ Aside0 (kq ≤ k) ∧ Aside0 (wc.heap[gb445]? = some (.cells #[(.slice A0_0 l0_0.length c0_0), (.slice A0_1 l0_1.length c0_1)] 25 (0, 0))) ∧ Aside0 (Below w.heap.size w wc))
 case first =>
  have H := HC4.out; clear HC4; obtain ⟨t446, A6, H⟩ := zbind H
  by_cases c7 : t446 = true
  ·subst c7
   rw [if_pos rfl] at H; have H' := A0_ H; clear H; have hcz8_0 := zc0 BK445; have hcz8_1 := zc1 BK445; have hfz8_0 := kF BK445.out 0; have hfz8_1 := kF BK445.out 1
   go_wp2_with (first | ((with_reducible refine gC (f := 56) rfl ?_); refine zJ (some 14) Try.func56 #[.agg #[.slice A0_0 l0_0.length c0_0, .slice A0_1 l0_1.length c0_1], .int .i64 a1, .slice A2 l2.length c2] ?_; (with_reducible refine (spec_VoltageValid.calls k _ _ l0_0 _ _ l0_1 a1 _ _ l2 true _ ?side1 ?side2 ?side3 ?side4 ?side5 ?side6 A6.out).mono ?_); (case side1 => exact zC HR0_0 HB); (case side2 => exact HC0_0.out); (case side3 => exact zC HR0_1 HB); (case side4 => exact HC0_1.out); (case side5 => exact zC HR2 HB); (case side6 => exact HC2.out); rintro e w9 ⟨rfl, hb⟩; refine ⟨_, rfl, ?_⟩; replace BK445 := zK BK445 hb; replace HB := zB HB hb; (try clear hb)))
   go_meet
   case rel => exact ⟨_, (decide (a1 > 4)), zt, H', zo, ⟨zK_ BK445⟩, ⟨zB_ HB⟩⟩
  replace c7 := Bool.eq_false_iff.mpr c7; subst c7
  rw [if_neg (show ¬ (false = true) by decide)] at H
  have H' := A0_ H; clear H; have hcz10_0 := zc0 BK445; have hcz10_1 := zc1 BK445; have hfz10_0 := kF BK445.out 0; have hfz10_1 := kF BK445.out 1
  go_wp2_with (first | ((with_reducible refine gC (f := 56) rfl ?_); refine zJ (some 14) Try.func56 #[.agg #[.slice A0_0 l0_0.length c0_0, .slice A0_1 l0_1.length c0_1], .int .i64 a1, .slice A2 l2.length c2] ?_; (with_reducible refine (spec_VoltageValid.calls k _ _ l0_0 _ _ l0_1 a1 _ _ l2 false _ ?side1 ?side2 ?side3 ?side4 ?side5 ?side6 A6.out).mono ?_); (case side1 => exact zC HR0_0 HB); (case side2 => exact HC0_0.out); (case side3 => exact zC HR0_1 HB); (case side4 => exact HC0_1.out); (case side5 => exact zC HR2 HB); (case side6 => exact HC2.out); rintro e w11 ⟨rfl, hb⟩; refine ⟨_, rfl, ?_⟩; replace BK445 := zK BK445 hb; replace HB := zB HB hb; (try clear hb)))
  go_meet
  case rel => exact ⟨_, (true), zt, H', zo, ⟨zK_ BK445⟩, ⟨zB_ HB⟩⟩
 case rest =>
  clear HC4; (try clear c2); (try clear p2); (try clear c5); (try clear c7); (try clear hcz10_0); (try clear hcz10_1); (try clear hcz8_0); (try clear hcz8_1); (try clear hfz10_0); (try clear hfz10_1); (try clear hfz8_0); (try clear hfz8_1); obtain ⟨kq, x19_3, rfl, HA, HJ3, BK445, HB⟩ := hcut
  cases kq with
  | zero => exact absurd HA.out (by simp [spec_CoverDeck.j0])
  | succ kj3 =>
   have H := HA.out; clear HA; simp only [spec_CoverDeck.j0] at H
   by_cases c12 : x19_3 = true
   ·subst c12
    rw [if_pos rfl] at H; obtain rfl := sI H
    go_wp2
    go_ret
    exact ⟨by first | rfl | (simp [*] <;> rfl), zB_ HB⟩
   replace c12 := Bool.eq_false_iff.mpr c12; subst c12
   rw [if_neg (show ¬ (false = true) by decide)] at H
   obtain ⟨t447, A13, H⟩ := zbind H; have H' := A0_ H; clear H
   go_wp2_with (first | ((with_reducible refine gC (f := 79) rfl ?_); refine zJ (some 21) Try.func79 #[.int .i64 a1] ?_; (with_reducible refine (spec_l1Same.calls kj3 a1 t447 _ A13.out).mono ?_); rintro e w14 ⟨v448, rfl, ho0, hb⟩; refine ⟨_, rfl, ?_⟩; have HO449 := A0_ (rL ho0 (bZ (zB_ HB))); replace BK445 := zK BK445 hb; replace HB := zB HB hb; (try clear hb); (try clear ho0)))
   go_loopg [7, 8] kj3 (fun kq v7 v8 w' => ∃ (x7_2 : Int) (x8_2 : List Int), v7 = .int .i64 x7_2 ∧ Aside0 (spec_CoverDeck.l0 kq l2 x7_2 x8_2 = some r) ∧ Aside0 (kq ≤ kj3) ∧ Aside0 (Kd.R (Kd.int .i64) 3 w' w.heap.size (fun _ => True) v8 x8_2) ∧ Aside0 (w'.heap[gb445]? = some (.cells #[(.slice A0_0 l0_0.length c0_0), (.slice A0_1 l0_1.length c0_1)] 25 (0, 0))) ∧ Aside0 (Below w.heap.size w w'))
   case atStart => exact ⟨(0), (t447), zt, H', ⟨Nat.le_refl _⟩, ⟨zR_ HO449⟩, ⟨zK_ BK445⟩, ⟨zB_ HB⟩⟩
   case round =>
    clear H'; (try clear c1); (try clear c2); (try clear p2); (try clear c5); (try clear c7); (try clear c12); (try clear hcz10_0); (try clear hcz10_1); (try clear hcz8_0); (try clear hcz8_1); (try clear hfz10_0); (try clear hfz10_1); (try clear hfz8_0); (try clear hfz8_1); (try clear p2); obtain ⟨x7_2, x8_2, rfl, HA, HK2, HO_8, BK445, HB⟩ := hrel
    cases gk with
    | zero => exact absurd HA.out (by simp [spec_CoverDeck.l0])
    | succ k2 =>
     have H := HA.out; clear HA; simp only [spec_CoverDeck.l0] at H
     by_cases c15 : (x8_2.length : Int) > 0
     ·rw [if_pos c15] at H
      have c15b0 : decide (0 < (x8_2.length : Int)) = true := dT c15
      have c15b1 : decide (0 < x8_2.length) = true := dT (by omega)
      clear c15; have H' := A0_ H; clear H; obtain ⟨Ao16, co16, eo16⟩ := rS HO_8.out; subst eo16
      go_wp2
      go_loopg [9, 10] k2 (fun kq v9 v10 w' => ∃ (x9_3 : Bool) (x10_3 : Int), v9 = .bool x9_3 ∧ v10 = .int .i64 x10_3 ∧ Aside0 (spec_CoverDeck.l1 kq l2 x7_2 x8_2 x9_3 x10_3 = some r) ∧ Aside0 (kq ≤ k2) ∧ Aside0 (Kd.R (Kd.int .i64) 3 w' w.heap.size (fun _ => True) (.slice Ao16 x8_2.length co16) x8_2) ∧ Aside0 (w'.heap[gb445]? = some (.cells #[(.slice A0_0 l0_0.length c0_0), (.slice A0_1 l0_1.length c0_1)] 25 (0, 0))) ∧ Aside0 (Below w.heap.size w w'))
      case atStart => exact ⟨(true), (0), zt, zt, H', ⟨Nat.le_refl _⟩, ⟨zR_ HO_8⟩, ⟨zK_ BK445⟩, ⟨zB_ HB⟩⟩
      case round =>
       clear H'; (try clear c1); (try clear c2); (try clear p2); (try clear c5); (try clear c7); (try clear c12); (try clear c15); (try clear c15b0); (try clear c15b1); (try clear hcz10_0); (try clear hcz10_1); (try clear hcz8_0); (try clear hcz8_1); (try clear hfz10_0); (try clear hfz10_1); (try clear hfz8_0); (try clear hfz8_1); (try clear p2); obtain ⟨x9_3, x10_3, rfl, rfl, HA, HK3, HO_8, BK445, HB⟩ := hrel
       cases gk with
       | zero => exact absurd HA.out (by simp [spec_CoverDeck.l1])
       | succ k3 =>
        have H := HA.out; clear HA; simp only [spec_CoverDeck.l1] at H
        by_cases c17 : x10_3 < (l2.length : Int)
        ·rw [if_pos c17] at H
         have c17b0 := dT c17; clear c17
         by_cases c18 : x9_3 = true
         ·subst c18
          rw [if_pos rfl] at H
          by_cases c19 : 0 ≤ x10_3
          ·rw [if_pos c19] at H
           have c19b0 := dT c19; clear c19; obtain ⟨t451, A20, H⟩ := zbind H; obtain ⟨t455, A21, H⟩ := zbind H; obtain ⟨t458, A22, H⟩ := zbind H; have H' := A0_ H; clear H
           try go_wp2
           replace HO_8 := A0_ (rD HO_8.out)
           replace BK445 := A0_ (kD BK445.out)
           replace HB := A0_ (bD HB.out)
           have p450 : 0 ≤ (x10_3 : Int) := zd
           have q450 : x10_3 < (l2.length : Int) := zd
           obtain ⟨ad450, A450_0, c450_0, e450, hx450_0, hl450_0, hi450_0⟩ := at_L1 HR2.out x10_3 p450 q450; have hw450_0 := hx450_0
           cases e450
           try replace hx450_0 := (HB.out.cell (wL w _ hx450_0)).trans hx450_0
           have HR450_0 := A0_ hi450_0; have HC450_0 := A0_ hl450_0; clear hi450_0 hl450_0; replace p450 := eq_true p450; replace q450 := eq_true q450
           have p454 : 0 ≤ (x10_3 : Int) := zd
           have q454 : x10_3 < (l2.length : Int) := zd
           obtain ⟨ad454, A454_0, c454_0, e454, hx454_0, hl454_0, hi454_0⟩ := at_L1 HR2.out x10_3 p454 q454; have hw454_0 := hx454_0
           obtain rfl : ad450 = ad454 := (by injection e454)
           try replace hx454_0 := (HB.out.cell (wL w _ hx454_0)).trans hx454_0
           have HR454_0 := A0_ hi454_0; have HC454_0 := A0_ hl454_0; clear hi454_0 hl454_0; replace p454 := eq_true p454; replace q454 := eq_true q454
           have ea_ := sI (hx450_0.symm.trans hx454_0)
           injection ea_ with ea_ en_ ec_
           subst ea_; subst ec_; clear en_
           refine start_ (n := 18) (S := fun w' => w'.cell? (ad450.add (x10_3).toNat) = some (.slice A450_0 (rd_L1 l2 x10_3).length c450_0) ∧ w'.cell? (ad450.add (x10_3).toNat) = some (.slice A450_0 (rd_L1 l2 x10_3).length c450_0)) (ds := []) #[false, false, false, false, false, false, false, false, false, false, false, false, false, false, false, false, false, false] (by kernel_rfl) rfl rfl ⟨((HB.out.cell (wL w _ hw450_0)).trans hw450_0), ((HB.out.cell (wL w _ hw454_0)).trans hw454_0)⟩ (fun hHeld => ?_); refine with_tabW spec_CoverDeck.tab11 spec_CoverDeck.bits11 (fun HT_ HW_ => ?_)
           generalize wr.drew = w23 at HO_8 BK445 HB HR450_0 HR454_0 hx450_0 hx454_0 hHeld ⊢
           refine zP 0 (some 33) #[true,false,false,false,false,false,false,false,false,false,false,false,false,false,false,false,false,false] ?_
           refine zP 1 (some 34) #[true,true,false,false,false,false,false,false,false,false,false,false,false,false,false,false,false,false] ?_
           refine zP 2 (some 35) #[true,true,true,false,false,false,false,false,false,false,false,false,false,false,false,false,false,false] ?_
           refine zP 3 (some 36) #[true,true,true,true,false,false,false,false,false,false,false,false,false,false,false,false,false,false] ?_
           refine zP 4 (some 37) #[true,true,true,true,true,false,false,false,false,false,false,false,false,false,false,false,false,false] ?_
           refine zP 5 (some 38) #[true,true,true,true,true,true,false,false,false,false,false,false,false,false,false,false,false,false] ?_
           refine zP 8 (some 41) #[true,true,true,true,true,true,false,false,true,false,false,false,false,false,false,false,false,false] ?_
           refine zP 9 (some 42) #[true,true,true,true,true,true,false,false,true,true,false,false,false,false,false,false,false,false] ?_
           refine zP 10 (some 43) #[true,true,true,true,true,true,false,false,true,true,true,false,false,false,false,false,false,false] ?_
           refine zP 12 (some 45) #[true,true,true,true,true,true,false,false,true,true,true,false,true,false,false,false,false,false] ?_
           refine take_ (i := 6) (N := some 39) (v := ?_) (a' := ?_) #[true, true, true, true, true, true, true, false, true, true, true, false, true, false, false, false, false, false] rfl rfl (take_ofW HT_.out HW_.out (by kernel_rfl)) (fun _ _ _ h => h) (Or.inl ⟨by rfl, ?_⟩) hHeld ?_ ?_
           rotate_left
           ·rintro w' ⟨s0, s1⟩
            go_simp
            with_reducible rfl
           rotate_left
           ·simp only [Act.put, List.setIfInBounds_toArray, List.set_cons_zero, List.set_cons_succ, i64_w, i32_w]
            rfl
           refine take_ (i := 11) (N := some 44) (v := ?_) (a' := ?_) #[true, true, true, true, true, true, true, false, true, true, true, true, true, false, false, false, false, false] rfl rfl (take_ofW HT_.out HW_.out (by kernel_rfl)) (fun _ _ _ h => h) (Or.inl ⟨by rfl, ?_⟩) hHeld ?_ ?_
           rotate_left
           ·rintro w' ⟨s0, s1⟩
            go_simp
            with_reducible rfl
           rotate_left
           ·simp only [Act.put, List.setIfInBounds_toArray, List.set_cons_zero, List.set_cons_succ, i64_w, i32_w]
            rfl
           refine one_ (i := 7) (N := some 40) #[true, true, true, true, true, true, true, true, true, true, true, true, true, false, false, false, false, false] rfl rfl (one_of HT_.out (by kernel_rfl)) (by decide) (fun K hK => ?_)
           refine goes_ Try.func82 (by kernel_rfl) rfl #[.slice Ao16 x8_2.length co16, .slice A450_0 (rd_L1 l2 x10_3).length c450_0] (by rfl) rfl rfl (by (try simp only [List.map_toArray, List.map_cons, List.map_nil]); first | done | rfl | (simp only [List.length_drop, List.length_take]; rfl)) ?_
           with_reducible refine (spec_l1Mul.calls k3 _ _ x8_2 _ _ (rd_L1 l2 x10_3) t451 _ ?side1 ?side2 ?side3 ?side4 A20.out).mono ?_
           (case side1 => exact zD HO_8)
           (case side2 => exact (rR HO_8.out).2.1)
           (case side3 => exact zC HR450_0 HB)
           (case side4 => exact HC450_0.out)
           rintro e w24 ⟨v452, rfl, ho0, hb⟩
           refine ⟨_, rfl, ?_⟩
           have HO453 := A0_ (rL (Kd.R_new' ho0 (rX (zR_ HO_8))) (bZ (zB_ HB)))
           replace HO_8 := A0_ (Kd.R_elder' (zR_ HO_8) (Kd.R_base ho0) hb)
           replace BK445 := zK BK445 hb; replace HB := zB HB hb; (try clear hb); (try clear hb2); (try clear hk); (try clear hi); (try clear ho0)
           refine hK.out _ _ ⟨((HB.out.cell (wL w _ hw450_0)).trans hw450_0), ((HB.out.cell (wL w _ hw454_0)).trans hw454_0)⟩ (fun hHeld => ?_)
           clear hK K
           refine norm_ (a' := ?_) ?_ ?_
           rotate_left
           ·show Act.put _ (some 40) _ = _
            simp only [Act.put, List.setIfInBounds_toArray, List.set_cons_zero, List.set_cons_succ, i64_w, i32_w]
            rfl
           refine one_ (i := 13) (N := some 46) #[true, true, true, true, true, true, true, true, true, true, true, true, true, true, false, false, false, false] rfl rfl (one_of HT_.out (by kernel_rfl)) (by decide) (fun K hK => ?_)
           refine goes_ Try.func82 (by kernel_rfl) rfl #[.slice A450_0 (rd_L1 l2 x10_3).length c450_0, .slice Ao16 x8_2.length co16] (by rfl) rfl rfl (by (try simp only [List.map_toArray, List.map_cons, List.map_nil]); first | done | rfl | (simp only [List.length_drop, List.length_take]; rfl)) ?_
           with_reducible refine (spec_l1Mul.calls k3 _ _ (rd_L1 l2 x10_3) _ _ x8_2 t455 _ ?side1 ?side2 ?side3 ?side4 A21.out).mono ?_
           (case side1 => exact zC HR454_0 HB)
           (case side2 => exact HC454_0.out)
           (case side3 => exact zD HO_8)
           (case side4 => exact (rR HO_8.out).2.1)
           rintro e w25 ⟨v456, rfl, ho0, hb⟩
           refine ⟨_, rfl, ?_⟩
           have HO457 := A0_ (rL (Kd.R_new' (Kd.R_new' ho0 (rX (zR_ HO_8))) (rX (zR_ HO453))) (bZ (zB_ HB)))
           replace HO_8 := A0_ (Kd.R_elder' (zR_ HO_8) (Kd.R_base ho0) hb)
           replace HO453 := A0_ (Kd.R_elder' (zR_ HO453) (Kd.R_base ho0) hb)
           replace BK445 := zK BK445 hb; replace HB := zB HB hb; (try clear hb); (try clear hb2); (try clear hk); (try clear hi); (try clear ho0); obtain ⟨Ao26, co26, eo26⟩ := rS HO453.out
           (first | subst eo26 | (injection eo26 with f1_ f2_ f3_; have f4_ := f1_.symm; have f5_ := f3_.symm; clear f1_ f2_ f3_; subst f4_; subst f5_))
           obtain ⟨Ao27, co27, eo27⟩ := rS HO457.out
           (first | subst eo27 | (injection eo27 with f1_ f2_ f3_; have f4_ := f1_.symm; have f5_ := f3_.symm; clear f1_ f2_ f3_; subst f4_; subst f5_))
           refine hK.out _ _ ⟨((HB.out.cell (wL w _ hw450_0)).trans hw450_0), ((HB.out.cell (wL w _ hw454_0)).trans hw454_0)⟩ (fun hHeld => ?_)
           clear hK K
           refine norm_ (a' := ?_) ?_ ?_
           rotate_left
           ·show Act.put _ (some 46) _ = _
            simp only [Act.put, List.setIfInBounds_toArray, List.set_cons_zero, List.set_cons_succ, i64_w, i32_w]
            rfl
           refine one_ (i := 14) (N := some 47) #[true, true, true, true, true, true, true, true, true, true, true, true, true, true, true, false, false, false] rfl rfl (one_of HT_.out (by kernel_rfl)) (by decide) (fun K hK => ?_)
           refine goes_ Try.func81 (by kernel_rfl) rfl #[.slice Ao26 t451.length co26, .slice Ao27 t455.length co27] (by rfl) rfl rfl (by (try simp only [List.map_toArray, List.map_cons, List.map_nil]); first | done | rfl | (simp only [List.length_drop, List.length_take]; rfl)) ?_
           with_reducible refine (spec_l2Order.calls k3 _ _ t451 _ _ t455 t458 _ ?side1 ?side2 ?side3 ?side4 A22.out).mono ?_
           (case side1 => exact zD HO453)
           (case side2 => exact (rR HO453.out).2.1)
           (case side3 => exact zD HO457)
           (case side4 => exact (rR HO457.out).2.1)
           rintro e w' ⟨rfl, ⟨nd, rfl⟩⟩
           refine ⟨_, rfl, ?_⟩
           refine hK.out _ _ ⟨((HB.out.cell (wL w _ hw450_0)).trans hw450_0), ((HB.out.cell (wL w _ hw454_0)).trans hw454_0)⟩ (fun hHeld => ?_)
           clear hK K
           refine norm_ (a' := ?_) ?_ ?_
           rotate_left
           ·show Act.put _ (some 47) _ = _
            simp only [Act.put, List.setIfInBounds_toArray, List.set_cons_zero, List.set_cons_succ, i64_w, i32_w]
            rfl
           refine zP 15 (some 48) #[true,true,true,true,true,true,true,true,true,true,true,true,true,true,true,true,false,false] ?_
           refine zP 16 (some 49) #[true,true,true,true,true,true,true,true,true,true,true,true,true,true,true,true,true,false] ?_
           refine zP 17 (some 9) #[true,true,true,true,true,true,true,true,true,true,true,true,true,true,true,true,true,true] ?_
           refine done_ (done_of HT_.out (by kernel_rfl)) ?_
           try go_wp2
           go_roundg k3
           case measure => have := HJ3.out; have := HK2.out; have := HK3.out; omega
           case rel => exact ⟨((t458 == 0)), (wrap64 (x10_3 + 1)), zt, zt, H', ⟨by have := HJ3.out; have := HK2.out; have := HK3.out; omega⟩, ⟨zmR HO_8 (fun _ hk => trivial)⟩, ⟨zK_ BK445⟩, ⟨zB_ HB⟩⟩
          rw [if_neg c19] at H
          exact absurd H (by simp)
         replace c18 := Bool.eq_false_iff.mpr c18; subst c18
         rw [if_neg (show ¬ (false = true) by decide)] at H
         have H' := A0_ H; clear H
         try go_wp2
         replace HO_8 := A0_ (rD HO_8.out)
         replace BK445 := A0_ (kD BK445.out)
         replace HB := A0_ (bD HB.out)
         refine start_ (n := 18) (S := fun w' => True) (ds := []) #[false, false, false, false, false, false, false, false, false, false, false, false, false, false, false, false, false, false] (by kernel_rfl) rfl rfl trivial (fun hHeld => ?_); refine with_tabW spec_CoverDeck.tab11 spec_CoverDeck.bits11 (fun HT_ HW_ => ?_)
         generalize wr.drew = w28 at HO_8 BK445 HB hHeld ⊢
         refine zP 0 (some 33) #[true,false,false,false,false,false,false,false,false,false,false,false,false,false,false,false,false,false] ?_
         refine zP 1 (some 34) #[true,true,false,false,false,false,false,false,false,false,false,false,false,false,false,false,false,false] ?_
         refine pure_ (i := 2) (N := some 35) (v := undef) (a' := ?_) #[true, true, true, false, false, false, false, false, false, false, false, false, false, false, false, false, false, false] rfl rfl (any_of HT_.out (by kernel_rfl)) (fun _ _ _ h => h) (Or.inr ⟨by rfl, rfl⟩) ?_ ?_
         rotate_left
         ·simp only [Act.put, List.setIfInBounds_toArray, List.set_cons_zero, List.set_cons_succ, i64_w, i32_w]
          rfl
         refine pure_ (i := 3) (N := some 36) (v := undef) (a' := ?_) #[true, true, true, true, false, false, false, false, false, false, false, false, false, false, false, false, false, false] rfl rfl (any_of HT_.out (by kernel_rfl)) (fun _ _ _ h => h) (Or.inr ⟨by rfl, rfl⟩) ?_ ?_
         rotate_left
         ·simp only [Act.put, List.setIfInBounds_toArray, List.set_cons_zero, List.set_cons_succ, i64_w, i32_w]
          rfl
         refine pure_ (i := 4) (N := some 37) (v := undef) (a' := ?_) #[true, true, true, true, true, false, false, false, false, false, false, false, false, false, false, false, false, false] rfl rfl (any_of HT_.out (by kernel_rfl)) (fun _ _ _ h => h) (Or.inr ⟨by rfl, rfl⟩) ?_ ?_
         rotate_left
         ·simp only [Act.put, List.setIfInBounds_toArray, List.set_cons_zero, List.set_cons_succ, i64_w, i32_w]
          rfl
         refine pure_ (i := 5) (N := some 38) (v := undef) (a' := ?_) #[true, true, true, true, true, true, false, false, false, false, false, false, false, false, false, false, false, false] rfl rfl (any_of HT_.out (by kernel_rfl)) (fun _ _ _ h => h) (Or.inr ⟨by rfl, rfl⟩) ?_ ?_
         rotate_left
         ·simp only [Act.put, List.setIfInBounds_toArray, List.set_cons_zero, List.set_cons_succ, i64_w, i32_w]
          rfl
         refine pure_ (i := 6) (N := some 39) (v := undef) (a' := ?_) #[true, true, true, true, true, true, true, false, false, false, false, false, false, false, false, false, false, false] rfl rfl (any_of HT_.out (by kernel_rfl)) (fun _ _ _ h => h) (Or.inr ⟨by rfl, rfl⟩) ?_ ?_
         rotate_left
         ·simp only [Act.put, List.setIfInBounds_toArray, List.set_cons_zero, List.set_cons_succ, i64_w, i32_w]
          rfl
         refine pure_ (i := 7) (N := some 40) (v := undef) (a' := ?_) #[true, true, true, true, true, true, true, true, false, false, false, false, false, false, false, false, false, false] rfl rfl (any_of HT_.out (by kernel_rfl)) (fun _ _ _ h => h) (Or.inr ⟨by rfl, rfl⟩) ?_ ?_
         rotate_left
         ·simp only [Act.put, List.setIfInBounds_toArray, List.set_cons_zero, List.set_cons_succ, i64_w, i32_w]
          rfl
         refine pure_ (i := 8) (N := some 41) (v := undef) (a' := ?_) #[true, true, true, true, true, true, true, true, true, false, false, false, false, false, false, false, false, false] rfl rfl (any_of HT_.out (by kernel_rfl)) (fun _ _ _ h => h) (Or.inr ⟨by rfl, rfl⟩) ?_ ?_
         rotate_left
         ·simp only [Act.put, List.setIfInBounds_toArray, List.set_cons_zero, List.set_cons_succ, i64_w, i32_w]
          rfl
         refine pure_ (i := 9) (N := some 42) (v := undef) (a' := ?_) #[true, true, true, true, true, true, true, true, true, true, false, false, false, false, false, false, false, false] rfl rfl (any_of HT_.out (by kernel_rfl)) (fun _ _ _ h => h) (Or.inr ⟨by rfl, rfl⟩) ?_ ?_
         rotate_left
         ·simp only [Act.put, List.setIfInBounds_toArray, List.set_cons_zero, List.set_cons_succ, i64_w, i32_w]
          rfl
         refine pure_ (i := 10) (N := some 43) (v := undef) (a' := ?_) #[true, true, true, true, true, true, true, true, true, true, true, false, false, false, false, false, false, false] rfl rfl (any_of HT_.out (by kernel_rfl)) (fun _ _ _ h => h) (Or.inr ⟨by rfl, rfl⟩) ?_ ?_
         rotate_left
         ·simp only [Act.put, List.setIfInBounds_toArray, List.set_cons_zero, List.set_cons_succ, i64_w, i32_w]
          rfl
         refine pure_ (i := 11) (N := some 44) (v := undef) (a' := ?_) #[true, true, true, true, true, true, true, true, true, true, true, true, false, false, false, false, false, false] rfl rfl (any_of HT_.out (by kernel_rfl)) (fun _ _ _ h => h) (Or.inr ⟨by rfl, rfl⟩) ?_ ?_
         rotate_left
         ·simp only [Act.put, List.setIfInBounds_toArray, List.set_cons_zero, List.set_cons_succ, i64_w, i32_w]
          rfl
         refine pure_ (i := 12) (N := some 45) (v := undef) (a' := ?_) #[true, true, true, true, true, true, true, true, true, true, true, true, true, false, false, false, false, false] rfl rfl (any_of HT_.out (by kernel_rfl)) (fun _ _ _ h => h) (Or.inr ⟨by rfl, rfl⟩) ?_ ?_
         rotate_left
         ·simp only [Act.put, List.setIfInBounds_toArray, List.set_cons_zero, List.set_cons_succ, i64_w, i32_w]
          rfl
         refine pure_ (i := 13) (N := some 46) (v := undef) (a' := ?_) #[true, true, true, true, true, true, true, true, true, true, true, true, true, true, false, false, false, false] rfl rfl (any_of HT_.out (by kernel_rfl)) (fun _ _ _ h => h) (Or.inr ⟨by rfl, rfl⟩) ?_ ?_
         rotate_left
         ·simp only [Act.put, List.setIfInBounds_toArray, List.set_cons_zero, List.set_cons_succ, i64_w, i32_w]
          rfl
         refine pure_ (i := 14) (N := some 47) (v := undef) (a' := ?_) #[true, true, true, true, true, true, true, true, true, true, true, true, true, true, true, false, false, false] rfl rfl (any_of HT_.out (by kernel_rfl)) (fun _ _ _ h => h) (Or.inr ⟨by rfl, rfl⟩) ?_ ?_
         rotate_left
         ·simp only [Act.put, List.setIfInBounds_toArray, List.set_cons_zero, List.set_cons_succ, i64_w, i32_w]
          rfl
         refine pure_ (i := 15) (N := some 48) (v := undef) (a' := ?_) #[true, true, true, true, true, true, true, true, true, true, true, true, true, true, true, true, false, false] rfl rfl (any_of HT_.out (by kernel_rfl)) (fun _ _ _ h => h) (Or.inr ⟨by rfl, rfl⟩) ?_ ?_
         rotate_left
         ·simp only [Act.put, List.setIfInBounds_toArray, List.set_cons_zero, List.set_cons_succ, i64_w, i32_w]
          rfl
         refine zP 16 (some 49) #[true,true,true,true,true,true,true,true,true,true,true,true,true,true,true,true,true,false] ?_
         refine zP 17 (some 9) #[true,true,true,true,true,true,true,true,true,true,true,true,true,true,true,true,true,true] ?_
         refine done_ (done_of HT_.out (by kernel_rfl)) ?_
         try go_wp2
         go_roundg k3
         case measure => have := HJ3.out; have := HK2.out; have := HK3.out; omega
         case rel => exact ⟨(false), (wrap64 (x10_3 + 1)), zt, zt, H', ⟨by have := HJ3.out; have := HK2.out; have := HK3.out; omega⟩, ⟨zR_ HO_8⟩, ⟨zK_ BK445⟩, ⟨zB_ HB⟩⟩
        rw [if_neg c17] at H; have c17b0 := dF c17; clear c17
        by_cases c29 : x9_3 = true
        ·subst c29
         rw [if_pos rfl] at H; obtain ⟨t459, A30, H⟩ := zbind H; have H' := A0_ H; clear H
         go_wp2_with (first | ((with_reducible refine gC (f := 80) rfl ?_); refine zJ (some 26) Try.func80 #[.slice Ao16 x8_2.length co16] ?_; (with_reducible refine (spec_l3Next.calls k3 _ _ x8_2 t459 _ ?side1 ?side2 A30.out).mono ?_); (case side1 => exact zD HO_8); (case side2 => exact (rR HO_8.out).2.1); rintro e w31 ⟨v460, rfl, ho0, hb⟩; refine ⟨_, rfl, ?_⟩; have HO461 := A0_ (rL (Kd.R_new' ho0 (rX (zR_ HO_8))) (bZ (zB_ HB))); replace HO_8 := A0_ (Kd.R_elder' (zR_ HO_8) (Kd.R_base ho0) hb); replace BK445 := zK BK445 hb; replace HB := zB HB hb; (try clear hb); (try clear ho0)))
         go_roundg k3
         case measure => have := HJ3.out; have := HK2.out; have := HK3.out; omega
         case rel => exact ⟨(wrap64 (x7_2 + 1)), (t459), zt, H', ⟨by have := HJ3.out; have := HK2.out; have := HK3.out; omega⟩, ⟨zmR HO461 (fun _ hk => trivial)⟩, ⟨zK_ BK445⟩, ⟨zB_ HB⟩⟩
        replace c29 := Bool.eq_false_iff.mpr c29; subst c29
        rw [if_neg (show ¬ (false = true) by decide)] at H
        obtain ⟨t462, A32, H⟩ := zbind H; have H' := A0_ H; clear H
        go_wp2_with (first | ((with_reducible refine gC (f := 80) rfl ?_); refine zJ (some 26) Try.func80 #[.slice Ao16 x8_2.length co16] ?_; (with_reducible refine (spec_l3Next.calls k3 _ _ x8_2 t462 _ ?side1 ?side2 A32.out).mono ?_); (case side1 => exact zD HO_8); (case side2 => exact (rR HO_8.out).2.1); rintro e w33 ⟨v463, rfl, ho0, hb⟩; refine ⟨_, rfl, ?_⟩; have HO464 := A0_ (rL (Kd.R_new' ho0 (rX (zR_ HO_8))) (bZ (zB_ HB))); replace HO_8 := A0_ (Kd.R_elder' (zR_ HO_8) (Kd.R_base ho0) hb); replace BK445 := zK BK445 hb; replace HB := zB HB hb; (try clear hb); (try clear ho0)))
        go_roundg k3
        case measure => have := HJ3.out; have := HK2.out; have := HK3.out; omega
        case rel => exact ⟨(x7_2), (t462), zt, H', ⟨by have := HJ3.out; have := HK2.out; have := HK3.out; omega⟩, ⟨zmR HO464 (fun _ hk => trivial)⟩, ⟨zK_ BK445⟩, ⟨zB_ HB⟩⟩
     rw [if_neg c15] at H
     have c15b0 : decide (0 < (x8_2.length : Int)) = false := dF c15
     have c15b1 : decide (0 < x8_2.length) = false := dF (by omega)
     clear c15; obtain rfl := sI H; obtain ⟨Ao34, co34, eo34⟩ := rS HO_8.out; subst eo34
     go_wp2
     go_ret
     exact ⟨by first | rfl | (simp [*] <;> rfl), zB_ HB⟩

end Go.Proofs.Ytmegggomhjgehaa.PFnDeck
