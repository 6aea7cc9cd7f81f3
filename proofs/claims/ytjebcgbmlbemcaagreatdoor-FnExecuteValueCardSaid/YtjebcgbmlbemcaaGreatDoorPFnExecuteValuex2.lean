-- Made by a program of this session (wip/tools) out of the loaded program; not trusted: Lean checks it.
import Derived.StillTailTactics
import Derived.Test.YtjebcgbmlbemcaaGreatDoorPFnExecuteValuex0
import Derived.Test.YtjebcgbmlbemcaaGreatDoorPFnExecuteValuex1
-- packed
namespace Go.Proofs.YtjebcgbmlbemcaaGreatDoor.PFnExecuteValue
open Go.RowKit Go.Proofs.YtjebcgbmlbemcaaGreatDoorW.PrintWords Go.Proofs.YtjebcgbmlbemcaaGreatDoorW.PrintLast Go.Proofs.YtjebcgbmlbemcaaGreatDoorW.PrintMore
attribute [local go_sem] max2_int min2_int max_two min_two max_three min_three max_four min_four   -- for this text's walks alone
set_option linter.unusedVariables false
set_option linter.unusedSimpArgs false

/-! ### impl_MapValid: function 24 -/
mutual
def impl_MapValid.j0 : Nat → Bool → List Int → List Int → Option (Bool)
  | 0, _, _, _ => none
  | k + 1, x23, x120000, x120001 => if x23 = true then (some false) else (impl_MapValid.l0 k x120001 (x120001.length : Int) 0 x120000 x120001)
def impl_MapValid.l0 : Nat → List Int → Int → Int → List Int → List Int → Option (Bool)
  | 0, _, _, _, _, _ => none
  | k + 1, x25, x26, x27, x120000, x120001 => if x27 < x26 then (if 0 ≤ x27 then (if x27 < (x25.length : Int) then (if (rd x25 x27) = x27 then (some false) else (if 0 ≤ (rd x25 x27) then (if (rd x25 x27) < (x120001.length : Int) then (if (rd x120001 (rd x25 x27)) = x27 then (impl_MapValid.l0 k x25 x26 (wrap64 (x27 + 1)) x120000 x120001) else (some false)) else (none)) else (none))) else (none)) else (none)) else ((impl_orbits.f k (([x120000, x120001] : List (List Int)))).bind fun t127 => ((slices_Max_int_int.f t127).bind fun t130 => (some (t130 == 0))))
end
def impl_MapValid.f (k : Nat) (l0_0 : List Int) (l0_1 : List Int) : Option (Bool) := (impl_PermValid.f l0_0).bind fun t120 => (if t120 = true then ((impl_PermValid.f l0_1).bind fun t121 => (if t121 = true then (impl_MapValid.j0 k ((l0_0.length : Int) != (l0_1.length : Int)) l0_0 l0_1) else (impl_MapValid.j0 k true l0_0 l0_1))) else (impl_MapValid.j0 k true l0_0 l0_1))
set_option maxHeartbeats 8000000 in
set_option maxRecDepth 100000 in
theorem impl_MapValid.calls (k : Nat) (P0_0_ : Nat → Prop) (A0_0 : Option Addr) (c0_0 : Nat) (l0_0 : List Int) (P0_1_ : Nat → Prop) (A0_1 : Option Addr) (c0_1 : Nat) (l0_1 : List Int) (r : Bool) (w : World) (hs0_0 : Kd.V (Kd.int .i64) 3 w w.heap.size (fun k_ => P0_0_ k_) (.slice A0_0 l0_0.length c0_0) l0_0) (hs0_1 : Kd.V (Kd.int .i64) 3 w w.heap.size (fun k_ => P0_1_ k_) (.slice A0_1 l0_1.length c0_1) l0_1) (h : impl_MapValid.f k l0_0 l0_1 = some r) :
    Calls Tryz.prog 24 #[.agg #[.slice A0_0 l0_0.length c0_0, .slice A0_1 l0_1.length c0_1]] w fun e w' => e = .returned (.bool r) ∧ Below w.heap.size w w' := by
 have hu25 := Tryz.underlying25
 have HO0_0 := A0_ (show Kd.V (Kd.int .i64) 3 w w.heap.size (fun k_ => ((P0_0_ k_ ∨ P0_1_ k_) ∨ w.heap.size ≤ k_)) (.slice A0_0 l0_0.length c0_0) l0_0 from Kd.V_mono hs0_0 (fun k_ hk => .inl (.inl hk)))
 have HO0_1 := A0_ (show Kd.V (Kd.int .i64) 3 w w.heap.size (fun k_ => ((P0_0_ k_ ∨ P0_1_ k_) ∨ w.heap.size ≤ k_)) (.slice A0_1 l0_1.length c0_1) l0_1 from Kd.V_mono hs0_1 (fun k_ hk => .inl (.inr hk)))
 have HB := A0_ (Below.refl w.heap.size w)
 have H : ((impl_PermValid.f l0_0).bind fun t120 => (if t120 = true then ((impl_PermValid.f l0_1).bind fun t121 => (if t121 = true then (impl_MapValid.j0 k ((l0_0.length : Int) != (l0_1.length : Int)) l0_0 l0_1) else (impl_MapValid.j0 k true l0_0 l0_1))) else (impl_MapValid.j0 k true l0_0 l0_1))) = some r := h
 clear h; have HC2 := A0_ H; clear H
 go_enter Tryz.func24, Tryz.ntmps24
 go_upto_region 1 with (first | ((with_reducible refine gD (N := 1) rfl ?_); refine zX (N := 1) (cs := #[.slice A0_0 l0_0.length c0_0, .slice A0_1 l0_1.length c0_1]) (t := 25) ?_; intro gb119 hg w3 hbox hb; replace HO0_0 := A0_ (Kd.V_below (Kd.V_elderB (by (with_reducible repeat (first | apply Kd.V_alloc | apply Kd.V_drewN | apply Kd.V_drew)); exact HO0_0.out) gb119 (Nat.le_of_eq hg.symm)) hb); replace HO0_1 := A0_ (Kd.V_below (Kd.V_elderB (by (with_reducible repeat (first | apply Kd.V_alloc | apply Kd.V_drewN | apply Kd.V_drew)); exact HO0_1.out) gb119 (Nat.le_of_eq hg.symm)) hb); have BK119 := A0_ (hbox); have GW119 := zG hg HB; have GE119 := zG hg HB; replace HB := zB HB hb; clear hb hbox hg))
 (try simp only [Act.put, List.setIfInBounds_toArray, List.set_cons_zero, List.set_cons_succ])
 go_cut [23] (fun v23 wc => ∃ (kq : Nat) (x23_1 : Bool), v23 = .bool x23_1 ∧ Aside0 (impl_MapValid.j0 kq x23_1 l0_0 l0_1 = some r) ∧ Aside0 (kq ≤ k) ∧ Aside0 (Kd.V (Kd.int .i64) 3 wc w.heap.size (fun k_ => ((P0_0_ k_ ∨ P0_1_ k_) ∨ w.heap.size ≤ k_) ∧ k_ ≠ gb119) (.slice A0_0 l0_0.length c0_0) l0_0) ∧ Aside0 (Kd.V (Kd.int .i64) 3 wc w.heap.size (fun k_ => ((P0_0_ k_ ∨ P0_1_ k_) ∨ w.heap.size ≤ k_) ∧ k_ ≠ gb119) (.slice A0_1 l0_1.length c0_1) l0_1) ∧ Aside0 (wc.heap[gb119]? = some (.cells #[(.slice A0_0 l0_0.length c0_0), (.slice A0_1 l0_1.length c0_1)] 25 (0, 0))) ∧ Aside0 (Below w.heap.size w wc))
 case first =>
  have H := HC2.out; clear HC2; obtain ⟨t120, A4, H⟩ := zbind H
  by_cases c5 : t120 = true
  ·subst c5
   rw [if_pos rfl] at H; obtain ⟨t121, A6, H⟩ := zbind H
   by_cases c7 : t121 = true
   ·subst c7
    rw [if_pos rfl] at H; have H' := A0_ H; clear H; have hcz8_0 := zc0 BK119; have hcz8_1 := zc1 BK119; have hfz8_0 := kF BK119.out 0; have hfz8_1 := kF BK119.out 1
    go_wp2_with (first | ((with_reducible refine gC (f := 58) rfl ?_); refine zJ (some 7) Tryz.func58 #[.slice A0_0 l0_0.length c0_0] ?_; (with_reducible refine (impl_PermValid.calls _ _ l0_0 true _ ?side1 ?side2 A4.out).mono ?_); (case side1 => repeat (first | exact (Kd.V_reads' HO0_0.out).2.2 | (with_reducible refine cA ?_ _) | (with_reducible refine cN ?_ _) | (with_reducible refine cD ?_))); (case side2 => exact (Kd.V_reads' HO0_0.out).2.1); rintro e w9 ⟨rfl, hb⟩; refine ⟨_, rfl, ?_⟩; replace HO0_0 := A0_ (Kd.V_below (by (with_reducible repeat (first | apply Kd.V_alloc | apply Kd.V_drewN | apply Kd.V_drew)); exact HO0_0.out) hb); replace HO0_1 := A0_ (Kd.V_below (by (with_reducible repeat (first | apply Kd.V_alloc | apply Kd.V_drewN | apply Kd.V_drew)); exact HO0_1.out) hb); replace BK119 := zK BK119 hb; replace HB := zB HB hb; (try clear hb); have hcz10_0 := zc0 BK119; have hcz10_1 := zc1 BK119; have hfz10_0 := kF BK119.out 0; have hfz10_1 := kF BK119.out 1) | (go_at_call 58; (with_reducible refine (impl_PermValid.calls _ _ l0_1 true _ ?side1 ?side2 A6.out).mono ?_); (case side1 => repeat (first | exact (Kd.V_reads' HO0_1.out).2.2 | (with_reducible refine cA ?_ _) | (with_reducible refine cN ?_ _) | (with_reducible refine cD ?_))); (case side2 => exact (Kd.V_reads' HO0_1.out).2.1); rintro e w11 ⟨rfl, hb⟩; replace HO0_0 := A0_ (Kd.V_below (by (with_reducible repeat (first | apply Kd.V_alloc | apply Kd.V_drewN | apply Kd.V_drew)); exact HO0_0.out) hb); replace HO0_1 := A0_ (Kd.V_below (by (with_reducible repeat (first | apply Kd.V_alloc | apply Kd.V_drewN | apply Kd.V_drew)); exact HO0_1.out) hb); replace BK119 := zK BK119 hb; replace HB := zB HB hb; (try clear hb); have hcz12_0 := zc0 BK119; have hcz12_1 := zc1 BK119; have hfz12_0 := kF BK119.out 0; have hfz12_1 := kF BK119.out 1))
    go_meet
    case rel => exact ⟨_, (((l0_0.length : Int) != (l0_1.length : Int))), zt, H', zo, ⟨by (with_reducible repeat (first | apply Kd.V_alloc | apply Kd.V_drewN | apply Kd.V_drew)); exact HO0_0.out⟩, ⟨by (with_reducible repeat (first | apply Kd.V_alloc | apply Kd.V_drewN | apply Kd.V_drew)); exact HO0_1.out⟩, ⟨zK_ BK119⟩, ⟨zB_ HB⟩⟩
   replace c7 := Bool.eq_false_iff.mpr c7; subst c7
   rw [if_neg (show ¬ (false = true) by decide)] at H
   have H' := A0_ H; clear H; have hcz13_0 := zc0 BK119; have hcz13_1 := zc1 BK119; have hfz13_0 := kF BK119.out 0; have hfz13_1 := kF BK119.out 1
   go_wp2_with (first | ((with_reducible refine gC (f := 58) rfl ?_); refine zJ (some 7) Tryz.func58 #[.slice A0_0 l0_0.length c0_0] ?_; (with_reducible refine (impl_PermValid.calls _ _ l0_0 true _ ?side1 ?side2 A4.out).mono ?_); (case side1 => repeat (first | exact (Kd.V_reads' HO0_0.out).2.2 | (with_reducible refine cA ?_ _) | (with_reducible refine cN ?_ _) | (with_reducible refine cD ?_))); (case side2 => exact (Kd.V_reads' HO0_0.out).2.1); rintro e w14 ⟨rfl, hb⟩; refine ⟨_, rfl, ?_⟩; replace HO0_0 := A0_ (Kd.V_below (by (with_reducible repeat (first | apply Kd.V_alloc | apply Kd.V_drewN | apply Kd.V_drew)); exact HO0_0.out) hb); replace HO0_1 := A0_ (Kd.V_below (by (with_reducible repeat (first | apply Kd.V_alloc | apply Kd.V_drewN | apply Kd.V_drew)); exact HO0_1.out) hb); replace BK119 := zK BK119 hb; replace HB := zB HB hb; (try clear hb); have hcz15_0 := zc0 BK119; have hcz15_1 := zc1 BK119; have hfz15_0 := kF BK119.out 0; have hfz15_1 := kF BK119.out 1) | (go_at_call 58; (with_reducible refine (impl_PermValid.calls _ _ l0_1 false _ ?side1 ?side2 A6.out).mono ?_); (case side1 => repeat (first | exact (Kd.V_reads' HO0_1.out).2.2 | (with_reducible refine cA ?_ _) | (with_reducible refine cN ?_ _) | (with_reducible refine cD ?_))); (case side2 => exact (Kd.V_reads' HO0_1.out).2.1); rintro e w16 ⟨rfl, hb⟩; replace HO0_0 := A0_ (Kd.V_below (by (with_reducible repeat (first | apply Kd.V_alloc | apply Kd.V_drewN | apply Kd.V_drew)); exact HO0_0.out) hb); replace HO0_1 := A0_ (Kd.V_below (by (with_reducible repeat (first | apply Kd.V_alloc | apply Kd.V_drewN | apply Kd.V_drew)); exact HO0_1.out) hb); replace BK119 := zK BK119 hb; replace HB := zB HB hb; (try clear hb)))
   go_meet
   case rel => exact ⟨_, (true), zt, H', zo, ⟨by (with_reducible repeat (first | apply Kd.V_alloc | apply Kd.V_drewN | apply Kd.V_drew)); exact HO0_0.out⟩, ⟨by (with_reducible repeat (first | apply Kd.V_alloc | apply Kd.V_drewN | apply Kd.V_drew)); exact HO0_1.out⟩, ⟨zK_ BK119⟩, ⟨zB_ HB⟩⟩
  replace c5 := Bool.eq_false_iff.mpr c5; subst c5
  rw [if_neg (show ¬ (false = true) by decide)] at H
  have H' := A0_ H; clear H; have hcz17_0 := zc0 BK119; have hcz17_1 := zc1 BK119; have hfz17_0 := kF BK119.out 0; have hfz17_1 := kF BK119.out 1
  go_wp2_with (first | ((with_reducible refine gC (f := 58) rfl ?_); refine zJ (some 7) Tryz.func58 #[.slice A0_0 l0_0.length c0_0] ?_; (with_reducible refine (impl_PermValid.calls _ _ l0_0 false _ ?side1 ?side2 A4.out).mono ?_); (case side1 => repeat (first | exact (Kd.V_reads' HO0_0.out).2.2 | (with_reducible refine cA ?_ _) | (with_reducible refine cN ?_ _) | (with_reducible refine cD ?_))); (case side2 => exact (Kd.V_reads' HO0_0.out).2.1); rintro e w18 ⟨rfl, hb⟩; refine ⟨_, rfl, ?_⟩; replace HO0_0 := A0_ (Kd.V_below (by (with_reducible repeat (first | apply Kd.V_alloc | apply Kd.V_drewN | apply Kd.V_drew)); exact HO0_0.out) hb); replace HO0_1 := A0_ (Kd.V_below (by (with_reducible repeat (first | apply Kd.V_alloc | apply Kd.V_drewN | apply Kd.V_drew)); exact HO0_1.out) hb); replace BK119 := zK BK119 hb; replace HB := zB HB hb; (try clear hb)))
  go_meet
  case rel => exact ⟨_, (true), zt, H', zo, ⟨by (with_reducible repeat (first | apply Kd.V_alloc | apply Kd.V_drewN | apply Kd.V_drew)); exact HO0_0.out⟩, ⟨by (with_reducible repeat (first | apply Kd.V_alloc | apply Kd.V_drewN | apply Kd.V_drew)); exact HO0_1.out⟩, ⟨zK_ BK119⟩, ⟨zB_ HB⟩⟩
 case rest =>
  clear HC2; (try clear c2); (try clear p2); (try clear c5); (try clear c7); (try clear hcz10_0); (try clear hcz10_1); (try clear hcz12_0); (try clear hcz12_1); (try clear hcz13_0); (try clear hcz13_1); (try clear hcz15_0); (try clear hcz15_1); (try clear hcz17_0); (try clear hcz17_1); (try clear hcz8_0); (try clear hcz8_1); (try clear hfz10_0); (try clear hfz10_1); (try clear hfz12_0); (try clear hfz12_1); (try clear hfz13_0); (try clear hfz13_1); (try clear hfz15_0); (try clear hfz15_1); (try clear hfz17_0); (try clear hfz17_1); (try clear hfz8_0); (try clear hfz8_1); obtain ⟨kq, x23_1, rfl, HA, HJ1, HO_120000, HO_120001, BK119, HB⟩ := hcut
  cases kq with
  | zero => exact absurd HA.out (by simp [impl_MapValid.j0])
  | succ kj1 =>
   have H := HA.out; clear HA; simp only [impl_MapValid.j0] at H
   by_cases c19 : x23_1 = true
   ·subst c19
    rw [if_pos rfl] at H; obtain rfl := sI H
    go_wp2
    go_ret
    exact ⟨by first | rfl | (simp [*] <;> rfl), zB_ HB⟩
   replace c19 := Bool.eq_false_iff.mpr c19; subst c19
   rw [if_neg (show ¬ (false = true) by decide)] at H
   have H' := A0_ H; clear H; have hcz20_0 := zc0 BK119; have hcz20_1 := zc1 BK119; have hfz20_0 := kF BK119.out 0; have hfz20_1 := kF BK119.out 1
   go_wp2
   go_loopg [27] kj1 (fun kq v27 w' => ∃ (x27_2 : Int), v27 = .int .i64 x27_2 ∧ Aside0 (impl_MapValid.l0 kq l0_1 (l0_1.length : Int) x27_2 l0_0 l0_1 = some r) ∧ Aside0 (kq ≤ kj1) ∧ Aside0 (Kd.V (Kd.int .i64) 3 w' w.heap.size (fun k_ => ((P0_0_ k_ ∨ P0_1_ k_) ∨ w.heap.size ≤ k_) ∧ k_ ≠ gb119) (.slice A0_1 l0_1.length c0_1) l0_1) ∧ Aside0 (Kd.V (Kd.int .i64) 3 w' w.heap.size (fun k_ => ((P0_0_ k_ ∨ P0_1_ k_) ∨ w.heap.size ≤ k_) ∧ k_ ≠ gb119) (.slice A0_0 l0_0.length c0_0) l0_0) ∧ Aside0 (Kd.V (Kd.int .i64) 3 w' w.heap.size (fun k_ => ((P0_0_ k_ ∨ P0_1_ k_) ∨ w.heap.size ≤ k_) ∧ k_ ≠ gb119) (.slice A0_1 l0_1.length c0_1) l0_1) ∧ Aside0 (w'.heap[gb119]? = some (.cells #[(.slice A0_0 l0_0.length c0_0), (.slice A0_1 l0_1.length c0_1)] 25 (0, 0))) ∧ Aside0 (Below w.heap.size w w'))
   case atStart => exact ⟨(0), zt, H', ⟨Nat.le_refl _⟩, ⟨by (with_reducible repeat (first | apply Kd.V_alloc | apply Kd.V_drewN | apply Kd.V_drew)); exact HO_120001.out⟩, ⟨by (with_reducible repeat (first | apply Kd.V_alloc | apply Kd.V_drewN | apply Kd.V_drew)); exact HO_120000.out⟩, ⟨by (with_reducible repeat (first | apply Kd.V_alloc | apply Kd.V_drewN | apply Kd.V_drew)); exact HO_120001.out⟩, ⟨zK_ BK119⟩, ⟨zB_ HB⟩⟩
   case round =>
    clear H'; (try clear c1); (try clear c2); (try clear p2); (try clear c5); (try clear c7); (try clear c19); (try clear hcz10_0); (try clear hcz10_1); (try clear hcz12_0); (try clear hcz12_1); (try clear hcz13_0); (try clear hcz13_1); (try clear hcz15_0); (try clear hcz15_1); (try clear hcz17_0); (try clear hcz17_1); (try clear hcz20_0); (try clear hcz20_1); (try clear hcz8_0); (try clear hcz8_1); (try clear hfz10_0); (try clear hfz10_1); (try clear hfz12_0); (try clear hfz12_1); (try clear hfz13_0); (try clear hfz13_1); (try clear hfz15_0); (try clear hfz15_1); (try clear hfz17_0); (try clear hfz17_1); (try clear hfz20_0); (try clear hfz20_1); (try clear hfz8_0); (try clear hfz8_1); (try clear p2); obtain ⟨x27_2, rfl, HA, HK2, HO_25, HO_120000, HO_120001, BK119, HB⟩ := hrel
    cases gk with
    | zero => exact absurd HA.out (by simp [impl_MapValid.l0])
    | succ k2 =>
     have H := HA.out; clear HA; simp only [impl_MapValid.l0] at H
     by_cases c21 : x27_2 < (l0_1.length : Int)
     ·rw [if_pos c21] at H
      have c21b0 := dT c21; clear c21
      by_cases c22 : 0 ≤ x27_2
      ·rw [if_pos c22] at H
       have c22b0 := dT c22; clear c22
       by_cases c23 : x27_2 < (l0_1.length : Int)
       ·rw [if_pos c23] at H
        have c23b0 := dT c23; clear c23
        by_cases c24 : (rd l0_1 x27_2) = x27_2
        ·rw [if_pos c24] at H
         have c24b0 : ((rd l0_1 x27_2) == x27_2) = true := beq_iff_eq.mpr c24
         have c24b1 : ((rd l0_1 x27_2) != x27_2) = false := bne_eq_false_iff_eq.mpr c24
         clear c24; obtain rfl := sI H
         have p122 : 0 ≤ (x27_2 : Int) := zd
         have q122 : x27_2 < (l0_1.length : Int) := zd
         obtain ⟨ad122, e122, hx122_0⟩ := tI (Kd.V_reads' HO_25.out).2.2 x27_2 p122 q122
         cases e122
         replace p122 := eq_true p122; replace q122 := eq_true q122
         go_wp2
         go_ret
         exact ⟨by first | rfl | (simp [*] <;> rfl), zB_ HB⟩
        rw [if_neg c24] at H
        have c24b0 : ((rd l0_1 x27_2) == x27_2) = false := beq_eq_false_iff_ne.mpr c24
        have c24b1 : ((rd l0_1 x27_2) != x27_2) = true := bne_iff_ne.mpr c24
        by_cases c25 : 0 ≤ (rd l0_1 x27_2)
        ·rw [if_pos c25] at H
         have c25b0 := dT c25; clear c25
         by_cases c26 : (rd l0_1 x27_2) < (l0_1.length : Int)
         ·rw [if_pos c26] at H
          have c26b0 := dT c26; clear c26
          by_cases c27 : (rd l0_1 (rd l0_1 x27_2)) = x27_2
          ·rw [if_pos c27] at H
           have c27b0 : ((rd l0_1 (rd l0_1 x27_2)) == x27_2) = true := beq_iff_eq.mpr c27
           have c27b1 : ((rd l0_1 (rd l0_1 x27_2)) != x27_2) = false := bne_eq_false_iff_eq.mpr c27
           clear c27; have H' := A0_ H; clear H
           have p122 : 0 ≤ (x27_2 : Int) := zd
           have q122 : x27_2 < (l0_1.length : Int) := zd
           obtain ⟨ad122, e122, hx122_0⟩ := tI (Kd.V_reads' HO_25.out).2.2 x27_2 p122 q122
           cases e122
           replace p122 := eq_true p122; replace q122 := eq_true q122; have hcz28_0 := zc0 BK119; have hcz28_1 := zc1 BK119; have hfz28_0 := kF BK119.out 0; have hfz28_1 := kF BK119.out 1
           have p123 : 0 ≤ ((rd l0_1 x27_2) : Int) := zd
           have q123 : (rd l0_1 x27_2) < (l0_1.length : Int) := zd
           obtain ⟨ad123, e123, hx123_0⟩ := tI (Kd.V_reads' HO_120001.out).2.2 (rd l0_1 x27_2) p123 q123
           obtain rfl : ad122 = ad123 := (by injection e123)
           replace p123 := eq_true p123; replace q123 := eq_true q123
           go_wp2
           go_roundg k2
           case measure => have := HJ1.out; have := HK2.out; omega
           case rel => exact ⟨(wrap64 (x27_2 + 1)), zt, H', ⟨by have := HJ1.out; have := HK2.out; omega⟩, ⟨by (with_reducible repeat (first | apply Kd.V_alloc | apply Kd.V_drewN | apply Kd.V_drew)); exact HO_25.out⟩, ⟨by (with_reducible repeat (first | apply Kd.V_alloc | apply Kd.V_drewN | apply Kd.V_drew)); exact HO_120000.out⟩, ⟨by (with_reducible repeat (first | apply Kd.V_alloc | apply Kd.V_drewN | apply Kd.V_drew)); exact HO_120001.out⟩, ⟨zK_ BK119⟩, ⟨zB_ HB⟩⟩
          rw [if_neg c27] at H
          have c27b0 : ((rd l0_1 (rd l0_1 x27_2)) == x27_2) = false := beq_eq_false_iff_ne.mpr c27
          have c27b1 : ((rd l0_1 (rd l0_1 x27_2)) != x27_2) = true := bne_iff_ne.mpr c27
          obtain rfl := sI H
          have p122 : 0 ≤ (x27_2 : Int) := zd
          have q122 : x27_2 < (l0_1.length : Int) := zd
          obtain ⟨ad122, e122, hx122_0⟩ := tI (Kd.V_reads' HO_25.out).2.2 x27_2 p122 q122
          cases e122
          replace p122 := eq_true p122; replace q122 := eq_true q122; have hcz29_0 := zc0 BK119; have hcz29_1 := zc1 BK119; have hfz29_0 := kF BK119.out 0; have hfz29_1 := kF BK119.out 1
          have p123 : 0 ≤ ((rd l0_1 x27_2) : Int) := zd
          have q123 : (rd l0_1 x27_2) < (l0_1.length : Int) := zd
          obtain ⟨ad123, e123, hx123_0⟩ := tI (Kd.V_reads' HO_120001.out).2.2 (rd l0_1 x27_2) p123 q123
          obtain rfl : ad122 = ad123 := (by injection e123)
          replace p123 := eq_true p123; replace q123 := eq_true q123
          go_wp2
          go_ret
          exact ⟨by first | rfl | (simp [*] <;> rfl), zB_ HB⟩
         rw [if_neg c26] at H
         exact absurd H (by simp)
        rw [if_neg c25] at H
        exact absurd H (by simp)
       rw [if_neg c23] at H
       exact absurd H (by simp)
      rw [if_neg c22] at H
      exact absurd H (by simp)
     rw [if_neg c21] at H; have c21b0 := dF c21; clear c21
     obtain ⟨y124, hy124⟩ : ∃ y_ : List (List Int), y_ = (([l0_0, l0_1] : List (List Int))) := ⟨_, rfl⟩
     replace H : ((impl_orbits.f k2 y124).bind fun t127 => ((slices_Max_int_int.f t127).bind fun t130 => (some (t130 == 0)))) = some r := zH hy124 H
     have Ny124 := A0_ hy124; clear hy124; obtain ⟨t127, A30, H⟩ := zbind H; obtain ⟨t130, A31, H⟩ := zbind H; obtain rfl := sI H; have hcz32_0 := zc0 BK119; have hcz32_1 := zc1 BK119; have hfz32_0 := kF BK119.out 0; have hfz32_1 := kF BK119.out 1
     go_wp2_with (first | ((with_reducible refine gD (N := 49) rfl ?_); refine Kd.N_lit (Kd.slice 3 (Kd.int .i64)) _ 23 ?hg (N' := 49) ?hd (xs := ([l0_0, l0_1] : List (List Int))) (inner := [.slice A0_0 l0_0.length c0_0, .slice A0_1 l0_1.length c0_1]) (ok := (fun k_ => ((P0_0_ k_ ∨ P0_1_ k_) ∨ w.heap.size ≤ k_) ∧ k_ ≠ gb119)) (okp := (fun k_ => ((P0_0_ k_ ∨ P0_1_ k_) ∨ w.heap.size ≤ k_) ∧ k_ ≠ gb119)) ?hr ?hp (fun _ hk => hk) ((show ∀ k_, wr.heap.size ≤ k_ → (fun k_ => ((P0_0_ k_ ∨ P0_1_ k_) ∨ w.heap.size ≤ k_) ∧ k_ ≠ gb119) k_ from fun k_ hk => ⟨(.inr (Nat.le_trans (bZ (zB_ HB)) hk)), Kd.freshB (g := gb119) (o := .cells #[.slice A0_0 l0_0.length c0_0, .slice A0_1 l0_1.length c0_1] 25 (0, 0)) (zK_ BK119) k_ hk⟩) _ (Nat.le_refl _)) (Below.refl _ _) (Nat.le_refl _) (by simp) ?_; (case hd => rfl); (case hg => rfl); (case hr => first | (go_simp; done) | (go_simp; rfl)); (case hp => exact (Reps.one (show Kd.FK (Kd.slice 3 (Kd.int .i64)) _ _ l0_0 [.slice A0_0 l0_0.length c0_0] from (Kd.FK_slice_mk (Kd.V_reads' (Kd.V_mono (ok' := (fun k_ => ((P0_0_ k_ ∨ P0_1_ k_) ∨ w.heap.size ≤ k_) ∧ k_ ≠ gb119)) (HO_120000.out) (fun k_ hk => ⟨hk.1, hk.2⟩))).2.1 (Kd.V_F (Kd.V_mono (ok' := (fun k_ => ((P0_0_ k_ ∨ P0_1_ k_) ∨ w.heap.size ≤ k_) ∧ k_ ≠ gb119)) (HO_120000.out) (fun k_ hk => ⟨hk.1, hk.2⟩))))) (Reps.one (show Kd.FK (Kd.slice 3 (Kd.int .i64)) _ _ l0_1 [.slice A0_1 l0_1.length c0_1] from (Kd.FK_slice_mk (Kd.V_reads' (Kd.V_mono (ok' := (fun k_ => ((P0_0_ k_ ∨ P0_1_ k_) ∨ w.heap.size ≤ k_) ∧ k_ ≠ gb119)) (HO_120001.out) (fun k_ hk => ⟨hk.1, hk.2⟩))).2.1 (Kd.V_F (Kd.V_mono (ok' := (fun k_ => ((P0_0_ k_ ∨ P0_1_ k_) ∨ w.heap.size ≤ k_) ∧ k_ ≠ gb119)) (HO_120001.out) (fun k_ hk => ⟨hk.1, hk.2⟩))))) (Reps.none _ _)))); intro v125 w33 ho34 hb hg_ hnew_; clear hg_ hnew_; (first | rw [← Ny124.out] at ho34 | (simp only [Int.reduceToNat] at ho34; rw [← Ny124.out] at ho34)); replace HO_25 := A0_ (Kd.V_elder' (by (with_reducible repeat (first | apply Kd.V_alloc | apply Kd.V_drewN | apply Kd.V_drew)); exact HO_25.out) (Kd.N_base ho34) hb); replace HO_120000 := A0_ (Kd.V_elder' (by (with_reducible repeat (first | apply Kd.V_alloc | apply Kd.V_drewN | apply Kd.V_drew)); exact HO_120000.out) (Kd.N_base ho34) hb); replace HO_120001 := A0_ (Kd.V_elder' (by (with_reducible repeat (first | apply Kd.V_alloc | apply Kd.V_drewN | apply Kd.V_drew)); exact HO_120001.out) (Kd.N_base ho34) hb); have HO126 := A0_ (Kd.N_lower ho34 (bZ (zB_ HB))); replace BK119 := zK BK119 hb; replace HB := zB HB hb; clear hb ho34; obtain ⟨Ao35, co35, eo35⟩ := Kd.N_slice HO126.out; subst eo35) | ((with_reducible refine gC (f := 60) rfl ?_); refine zJ (some 50) Tryz.func60 #[.slice Ao35 y124.length co35] ?_; (with_reducible refine (impl_orbits.calls k2 _ _ y124 t127 _ ?side1 ?side2 A30.out).mono ?_); (case side1 => repeat (first | exact (Kd.N_reads' HO126.out).2.2 | (with_reducible refine cA ?_ _) | (with_reducible refine cN ?_ _) | (with_reducible refine cD ?_))); (case side2 => exact (Kd.N_reads' HO126.out).2.1); rintro e w36 ⟨v128, rfl, ho0, hb⟩; refine ⟨_, rfl, ?_⟩; replace HO_25 := A0_ (Kd.V_elder' (by (with_reducible repeat (first | apply Kd.V_alloc | apply Kd.V_drewN | apply Kd.V_drew)); exact HO_25.out) (Kd.R_base ho0) hb); replace HO_120000 := A0_ (Kd.V_elder' (by (with_reducible repeat (first | apply Kd.V_alloc | apply Kd.V_drewN | apply Kd.V_drew)); exact HO_120000.out) (Kd.R_base ho0) hb); replace HO_120001 := A0_ (Kd.V_elder' (by (with_reducible repeat (first | apply Kd.V_alloc | apply Kd.V_drewN | apply Kd.V_drew)); exact HO_120001.out) (Kd.R_base ho0) hb); replace HO126 := A0_ (Kd.N_elder' (by (with_reducible repeat (first | apply Kd.N_alloc | apply Kd.N_drewN | apply Kd.N_drew)); exact HO126.out) (Kd.R_base ho0) hb); have HO129 := A0_ (rL (Kd.R_newM (M := fun k_ => (w.heap.size ≤ k_)) ho0 (bZ (zB_ HB)) (fun k_ h_ => h_)) (bZ (zB_ HB))); replace BK119 := zK BK119 hb; replace HB := zB HB hb; (try clear hb); (try clear ho0); obtain ⟨Ao37, co37, eo37⟩ := rS HO129.out; subst eo37) | ((with_reducible refine gC (f := 59) rfl ?_); refine zJ (some 51) Tryz.func59 #[.slice Ao37 t127.length co37] ?_; (with_reducible refine (slices_Max_int_int.calls _ _ t127 t130 _ ?side1 ?side2 A31.out).mono ?_); (case side1 => exact zD HO129); (case side2 => exact (rR HO129.out).2.1); rintro e w' ⟨rfl, ⟨nd, rfl⟩⟩; refine ⟨_, rfl, ?_⟩))
     go_ret
     exact ⟨by first | rfl | (simp [*] <;> rfl), zB_ HB⟩

/-! ### impl_edgesOf: function 48 -/
def impl_edgesOf.l0 : Nat → List Int → List Int → Int → Int → Option (List Int)
  | 0, _, _, _, _ => none
  | k + 1, x3, x8, x9, x10 => if x10 < x9 then (if 0 ≤ x10 then (if x10 < (x8.length : Int) then (if x10 < (rd x8 x10) then (if x3.length < 17592186044416 then (impl_edgesOf.l0 k (x3 ++ [x10]) x8 x9 (wrap64 (x10 + 1))) else (none)) else (impl_edgesOf.l0 k x3 x8 x9 (wrap64 (x10 + 1)))) else (none)) else (none)) else (some x3)
def impl_edgesOf.f (k : Nat) (l0_0 : List Int) (l0_1 : List Int) : Option (List Int) := impl_edgesOf.l0 k (([] : List Int)) l0_1 (l0_1.length : Int) 0
set_option maxHeartbeats 8000000 in
set_option maxRecDepth 100000 in
theorem impl_edgesOf.calls (k : Nat) (A0_0 : Option Addr) (c0_0 : Nat) (l0_0 : List Int) (A0_1 : Option Addr) (c0_1 : Nat) (l0_1 : List Int) (r : List Int) (w : World) (hr0_0 : Kd.C (Kd.int .i64) w A0_0 l0_0.length l0_0) (hc0_0 : l0_0.length ≤ c0_0) (hr0_1 : Kd.C (Kd.int .i64) w A0_1 l0_1.length l0_1) (hc0_1 : l0_1.length ≤ c0_1) (h : impl_edgesOf.f k l0_0 l0_1 = some r) :
    Calls Tryz.prog 48 #[.agg #[.slice A0_0 l0_0.length c0_0, .slice A0_1 l0_1.length c0_1]] w fun e w' => ∃ v0_ : Value, e = .returned (v0_) ∧ Kd.R (Kd.int .i64) 3 w' w.heap.size (fun _ => True) v0_ r ∧ Below w.heap.size w w' := by
 have hu25 := Tryz.underlying25; have HR0_0 := A0_ hr0_0; have HC0_0 := A0_ hc0_0; clear hr0_0 hc0_0; have HR0_1 := A0_ hr0_1; have HC0_1 := A0_ hc0_1; clear hr0_1 hc0_1
 have HB := A0_ (Below.refl w.heap.size w)
 have H : (impl_edgesOf.l0 k (([] : List Int)) l0_1 (l0_1.length : Int) 0) = some r := h
 clear h
 obtain ⟨y132, hy132⟩ : ∃ y_ : List Int, y_ = (([] : List Int)) := ⟨_, rfl⟩
 replace H : (impl_edgesOf.l0 k y132 l0_1 (l0_1.length : Int) 0) = some r := zH hy132 H
 have Ny132 := A0_ hy132; clear hy132; have H' := A0_ H; clear H
 go_enter Tryz.func48, Tryz.ntmps48
 go_wp2_with (first | ((with_reducible refine gD (N := 1) rfl ?_); refine zX (N := 1) (cs := #[.slice A0_0 l0_0.length c0_0, .slice A0_1 l0_1.length c0_1]) (t := 25) ?_; intro gb131 hg w2 hbox hb; have BK131 := A0_ (hbox); have GW131 := zG hg HB; have GE131 := zG hg HB; replace HB := zB HB hb; clear hb hbox hg) | ((with_reducible refine gD (N := 6) rfl ?_); refine Kd.R_lit (Kd.int .i64) _ 3 ?hg (N := 6) ?hd (xs := ([] : List Int)) (inner := []) (ok := fun _ => True) (okp := fun _ => True) ?hr ?hp (fun _ hk => hk) trivial (Below.refl _ _) (Nat.le_refl _) (by simp) ?_; (case hd => rfl); (case hg => rfl); (case hr => first | (go_simp; done) | (go_simp; rfl)); (case hp => exact (Reps.none _ _)); intro v133 w3 ho4 hb hg_ hnew_; clear hg_ hnew_; (first | rw [← Ny132.out] at ho4 | (simp only [Int.reduceToNat] at ho4; rw [← Ny132.out] at ho4)); have HO134 := A0_ (rL ho4 (bZ (zB_ HB))); replace BK131 := zK BK131 hb; replace HB := zB HB hb; clear hb ho4; have hcz5_0 := zc0 BK131; have hcz5_1 := zc1 BK131; have hfz5_0 := kF BK131.out 0; have hfz5_1 := kF BK131.out 1))
 go_loopg [3, 10] k (fun kq v3 v10 w' => ∃ (x3_1 : List Int) (x10_1 : Int), v10 = .int .i64 x10_1 ∧ Aside0 (impl_edgesOf.l0 kq x3_1 l0_1 (l0_1.length : Int) x10_1 = some r) ∧ Aside0 (kq ≤ k) ∧ Aside0 (Kd.R (Kd.int .i64) 3 w' w.heap.size (fun _ => True) v3 x3_1) ∧ Aside0 (w'.heap[gb131]? = some (.cells #[(.slice A0_0 l0_0.length c0_0), (.slice A0_1 l0_1.length c0_1)] 25 (0, 0))) ∧ Aside0 (Below w.heap.size w w'))
 case atStart => exact ⟨(y132), (0), zt, H', ⟨Nat.le_refl _⟩, ⟨zR_ HO134⟩, ⟨zK_ BK131⟩, ⟨zB_ HB⟩⟩
 case round =>
  clear H'; (try clear p2); (try clear c4); (try clear hcz5_0); (try clear hcz5_1); (try clear hfz5_0); (try clear hfz5_1); obtain ⟨x3_1, x10_1, rfl, HA, HK1, HO_3, BK131, HB⟩ := hrel
  cases gk with
  | zero => exact absurd HA.out (by simp [impl_edgesOf.l0])
  | succ k1 =>
   have H := HA.out; clear HA; simp only [impl_edgesOf.l0] at H
   by_cases c6 : x10_1 < (l0_1.length : Int)
   ·rw [if_pos c6] at H
    have c6b0 := dT c6; clear c6
    by_cases c7 : 0 ≤ x10_1
    ·rw [if_pos c7] at H
     have c7b0 := dT c7; clear c7
     by_cases c8 : x10_1 < (l0_1.length : Int)
     ·rw [if_pos c8] at H
      have c8b0 := dT c8; clear c8
      by_cases c9 : x10_1 < (rd l0_1 x10_1)
      ·rw [if_pos c9] at H
       have c9b0 := dT c9; clear c9
       by_cases c10 : x3_1.length < 17592186044416
       ·rw [if_pos c10] at H
        have LMc10 := A0_ c10; clear c10
        obtain ⟨y136, hy136⟩ : ∃ y_ : List Int, y_ = (x3_1 ++ [x10_1]) := ⟨_, rfl⟩
        replace H : (impl_edgesOf.l0 k1 y136 l0_1 (l0_1.length : Int) (wrap64 (x10_1 + 1))) = some r := zH hy136 H
        have Ny136 := A0_ hy136; clear hy136; have H' := A0_ H; clear H
        have p135 : 0 ≤ (x10_1 : Int) := zd
        have q135 : x10_1 < (l0_1.length : Int) := zd
        obtain ⟨ad135, e135, hx135_0⟩ := tI HR0_1.out x10_1 p135 q135
        cases e135
        try replace hx135_0 := (HB.out.cell (wL w _ hx135_0)).trans hx135_0
        replace p135 := eq_true p135; replace q135 := eq_true q135
        go_wp2_with (first | ((with_reducible refine gB (b := .append) (xs := #[.tmp 18, .tmp 20]) rfl ?_); at_builtin; refine Kd.R_append (Kd.int .i64) (w0 := w) w.heap.size rfl (.tmp 18) (.tmp 20) 23 3 (.int .i64 0) 8 rfl Tryz.underlying23 info3 rfl (by decide) (by omega) u3 x3_1 x10_1 [.int .i64 x10_1] (fun _ => True) (fun _ => False) rfl rfl ?aP (fun _ hk => hk.elim) ?aF ?aO ?aB ?aS ?aL ?_; (case aP => exact rfl); (case aB => exact (zB_ HB)); (case aF => exact (fun _ _ => trivial)); (case aO => exact (zR_ HO_3)); (case aS => exact (bZ (zB_ HB))); (case aL => have := LMc10.out; omega); intro v137 w11 ho hb hg hat; rw [← Ny136.out] at ho; replace BK131 := A0_ (blk_grown (g := gb131) (o := .cells #[.slice A0_0 l0_0.length c0_0, .slice (some ad135) l0_1.length c0_1] 25 (0, 0)) (zK_ BK131) hg (Kd.R_ne HO_3.out BK131.out (by decide))); replace HB := A0_ (hb); have HO138 := A0_ (ho); clear HO_3 ho hb hg hat))
        go_roundg k1
        case measure => have := HK1.out; omega
        case rel => exact ⟨(y136), (wrap64 (x10_1 + 1)), zt, H', ⟨by have := HK1.out; omega⟩, ⟨zR_ HO138⟩, ⟨zK_ BK131⟩, ⟨zB_ HB⟩⟩
       rw [if_neg c10] at H
       exact absurd H (by simp)
      rw [if_neg c9] at H; have c9b0 := dF c9; clear c9; have H' := A0_ H; clear H
      have p135 : 0 ≤ (x10_1 : Int) := zd
      have q135 : x10_1 < (l0_1.length : Int) := zd
      obtain ⟨ad135, e135, hx135_0⟩ := tI HR0_1.out x10_1 p135 q135
      cases e135
      try replace hx135_0 := (HB.out.cell (wL w _ hx135_0)).trans hx135_0
      replace p135 := eq_true p135; replace q135 := eq_true q135
      go_wp2
      go_roundg k1
      case measure => have := HK1.out; omega
      case rel => exact ⟨(x3_1), (wrap64 (x10_1 + 1)), zt, H', ⟨by have := HK1.out; omega⟩, ⟨zR_ HO_3⟩, ⟨zK_ BK131⟩, ⟨zB_ HB⟩⟩
     rw [if_neg c8] at H
     exact absurd H (by simp)
    rw [if_neg c7] at H
    exact absurd H (by simp)
   rw [if_neg c6] at H; have c6b0 := dF c6; clear c6; obtain rfl := sI H
   go_wp2
   go_ret
   exact ⟨_, by first | rfl | (simp [*] <;> rfl), zR_ HO_3, zB_ HB⟩

/-! ### impl_cyclesOf: function 81 -/
mutual
def impl_cyclesOf.l0 : Nat → List Int → List (List Int) → List Bool → Int → Int → Option ((List (List Int)))
  | 0, _, _, _, _, _ => none
  | k + 1, x0, x3, x4, x13, x14 => if x14 < x13 then (impl_cyclesOf.l1 k x0 x3 x4 (([] : List Int)) x14 x13 x14) else (some x3)
def impl_cyclesOf.l1 : Nat → List Int → List (List Int) → List Bool → List Int → Int → Int → Int → Option ((List (List Int)))
  | 0, _, _, _, _, _, _, _ => none
  | k + 1, x0, x3, x4, x6, x7, x13, x14 => if 0 ≤ x7 then (if x7 < (x4.length : Int) then (if rdOf false x4 x7 = true then (if (x6.length : Int) > 0 then (if x3.length < 5864062014805 then (impl_cyclesOf.l0 k x0 (x3 ++ [x6]) x4 x13 (wrap64 (x14 + 1))) else (none)) else (impl_cyclesOf.l0 k x0 x3 x4 x13 (wrap64 (x14 + 1)))) else (if x6.length < 17592186044416 then (if x7 < (x0.length : Int) then (impl_cyclesOf.l1 k x0 x3 (x4.set (x7 : Int).toNat true) (x6 ++ [x7]) (rd x0 x7) x13 x14) else (none)) else (none))) else (none)) else (none)
end
def impl_cyclesOf.f (k : Nat) (l0 : List Int) : Option ((List (List Int))) := if 0 ≤ (l0.length : Int) then (if ((l0.length : Int) : Int).toNat ≤ 281474976710656 then (impl_cyclesOf.l0 k l0 (([] : List (List Int))) (List.replicate ((l0.length : Int) : Int).toNat false) (l0.length : Int) 0) else (none)) else (none)
set_option maxHeartbeats 8000000 in
set_option maxRecDepth 100000 in
theorem impl_cyclesOf.calls (k : Nat) (A0 : Option Addr) (c0 : Nat) (l0 : List Int) (r : List (List Int)) (w : World) (hr0 : Kd.C (Kd.int .i64) w A0 l0.length l0) (hc0 : l0.length ≤ c0) (h : impl_cyclesOf.f k l0 = some r) :
    Calls Tryz.prog 81 #[.slice A0 l0.length c0] w fun e w' => ∃ v0_ : Value, e = .returned (v0_) ∧ Kd.S (Kd.slice 3 (Kd.int .i64)) 23 w' w.heap.size (fun _ => True) v0_ r ∧ Below w.heap.size w w' := by
 have HR0 := A0_ hr0; have HC0 := A0_ hc0; clear hr0 hc0
 have HB := A0_ (Below.refl w.heap.size w)
 have H : (if 0 ≤ (l0.length : Int) then (if ((l0.length : Int) : Int).toNat ≤ 281474976710656 then (impl_cyclesOf.l0 k l0 (([] : List (List Int))) (List.replicate ((l0.length : Int) : Int).toNat false) (l0.length : Int) 0) else (none)) else (none)) = some r := h
 clear h
 obtain ⟨y139, hy139⟩ : ∃ y_ : List (List Int), y_ = (([] : List (List Int))) := ⟨_, rfl⟩
 replace H : (if 0 ≤ (l0.length : Int) then (if ((l0.length : Int) : Int).toNat ≤ 281474976710656 then (impl_cyclesOf.l0 k l0 y139 (List.replicate ((l0.length : Int) : Int).toNat false) (l0.length : Int) 0) else (none)) else (none)) = some r := zH hy139 H
 have Ny139 := A0_ hy139; clear hy139
 by_cases c2 : 0 ≤ (l0.length : Int)
 ·rw [if_pos c2] at H
  have c2b0 := eq_true c2; have c2b1 := dT c2; clear c2
  by_cases c3 : ((l0.length : Int) : Int).toNat ≤ 281474976710656
  ·rw [if_pos c3] at H
   have c3b0 := eq_true c3; have c3b1 := dT c3; clear c3
   obtain ⟨y142, hy142⟩ : ∃ y_ : List Bool, y_ = (List.replicate ((l0.length : Int) : Int).toNat false) := ⟨_, rfl⟩
   replace H : (impl_cyclesOf.l0 k l0 y139 y142 (l0.length : Int) 0) = some r := zH hy142 H
   have Ny142 := A0_ hy142; clear hy142; have H' := A0_ H; clear H
   go_enter Tryz.func81, Tryz.ntmps81
   go_wp2_with (first | ((with_reducible refine gD (N := 8) rfl ?_); refine Kd.S_lit (Kd.slice 3 (Kd.int .i64)) _ 23 ?hg (N := 8) ?hd (xs := ([] : List (List Int))) (inner := []) (ok := fun _ => True) (okp := fun _ => True) ?hr ?hp (fun _ hk => hk) trivial (Below.refl _ _) (Nat.le_refl _) (by simp) ?_; (case hd => rfl); (case hg => rfl); (case hr => first | (go_simp; done) | (go_simp; rfl)); (case hp => exact (Reps.none _ _)); intro v140 w4 ho5 hb hg_ hnew_; clear hg_ hnew_; (first | rw [← Ny139.out] at ho5 | (simp only [Int.reduceToNat] at ho5; rw [← Ny139.out] at ho5)); have HO141 := A0_ (Kd.S_lower ho5 (bZ (zB_ HB))); replace HB := zB HB hb; clear hb ho5) | ((with_reducible refine gD (N := 11) rfl ?_); refine Kd.R_make Kd.bool _ 4 rfl (N := 11) rfl 97 _ _ rfl (l0.length : Int) rfl rfl Tryz.underlying97 (.bool false) 1 info4 rfl (by decide) (by omega) false (ok := fun _ => True) (okp := fun _ => True) rfl (fun _ hk => hk) trivial (zd) (Nat.le_trans (Nat.mul_le_mul_right _ (zd : (l0.length : Int).toNat ≤ 281474976710656)) (by omega)) (Below.refl _ _) (Nat.le_refl _) ?_; intro v143 w6 ho7 hb hg_ hnew_; clear hg_ hnew_; (first | rw [← Ny142.out] at ho7 | (simp only [Int.reduceToNat] at ho7; rw [← Ny142.out] at ho7)); replace HO141 := zS HO141 hb; have HO144 := A0_ (rL ho7 (bZ (zB_ HB))); replace HB := zB HB hb; clear hb ho7))
   go_loopg [3, 14] k (fun kq v3 v14 w' => ∃ (x3_1 : List (List Int)) (x4_1 : List Bool) (x14_1 : Int), v14 = .int .i64 x14_1 ∧ Aside0 (impl_cyclesOf.l0 kq l0 x3_1 x4_1 (l0.length : Int) x14_1 = some r) ∧ Aside0 (kq ≤ k) ∧ Aside0 (Kd.S (Kd.slice 3 (Kd.int .i64)) 23 w' w.heap.size (fun _ => True) v3 x3_1) ∧ Aside0 (Kd.R Kd.bool 4 w' w.heap.size (fun _ => True) v143 x4_1) ∧ Aside0 (Below w.heap.size w w'))
   case atStart => exact ⟨(y139), (y142), (0), zt, H', ⟨Nat.le_refl _⟩, ⟨zS_ HO141⟩, ⟨zR_ HO144⟩, ⟨zB_ HB⟩⟩
   case round =>
    clear H'; (try clear c2); (try clear c2b0); (try clear c2b1); (try clear p2); (try clear c3); (try clear c3b0); (try clear c3b1); obtain ⟨x3_1, x4_1, x14_1, rfl, HA, HK1, HO_3, HO_4, HB⟩ := hrel
    cases gk with
    | zero => exact absurd HA.out (by simp [impl_cyclesOf.l0])
    | succ k1 =>
     have H := HA.out; clear HA; simp only [impl_cyclesOf.l0] at H
     by_cases c8 : x14_1 < (l0.length : Int)
     ·rw [if_pos c8] at H
      have c8b0 := dT c8; clear c8
      obtain ⟨y145, hy145⟩ : ∃ y_ : List Int, y_ = (([] : List Int)) := ⟨_, rfl⟩
      replace H : (impl_cyclesOf.l1 k1 l0 x3_1 x4_1 y145 x14_1 (l0.length : Int) x14_1) = some r := zH hy145 H
      have Ny145 := A0_ hy145; clear hy145; have H' := A0_ H; clear H
      go_wp2_with (first | ((with_reducible refine gD (N := 17) rfl ?_); refine Kd.R_lit (Kd.int .i64) _ 3 ?hg (N := 17) ?hd (xs := ([] : List Int)) (inner := []) (ok := fun _ => True) (okp := fun _ => True) ?hr ?hp (fun _ hk => hk) trivial (Below.refl _ _) (Nat.le_refl _) (by simp) ?_; (case hd => rfl); (case hg => rfl); (case hr => first | (go_simp; done) | (go_simp; rfl)); (case hp => exact (Reps.none _ _)); intro v146 w9 ho10 hb hg_ hnew_; clear hg_ hnew_; (first | rw [← Ny145.out] at ho10 | (simp only [Int.reduceToNat] at ho10; rw [← Ny145.out] at ho10)); replace HO_3 := A0_ (Kd.S_elder' (zS_ HO_3) (Kd.R_base ho10) hb); replace HO_4 := zR HO_4 hb; have HO147 := A0_ (rL ho10 (bZ (zB_ HB))); replace HB := zB HB hb; clear hb ho10))
      go_loopg [6, 7] k1 (fun kq v6 v7 w' => ∃ (x4_2 : List Bool) (x6_2 : List Int) (x7_2 : Int), v7 = .int .i64 x7_2 ∧ Aside0 (impl_cyclesOf.l1 kq l0 x3_1 x4_2 x6_2 x7_2 (l0.length : Int) x14_1 = some r) ∧ Aside0 (kq ≤ k1) ∧ Aside0 (Kd.S (Kd.slice 3 (Kd.int .i64)) 23 w' w.heap.size (fun k_ => some k_ ≠ (v6 : Value).ownBlock) u3 x3_1) ∧ Aside0 (Kd.R Kd.bool 4 w' w.heap.size (fun _ => True) v143 x4_2) ∧ Aside0 (Kd.R (Kd.int .i64) 3 w' w.heap.size (fun _ => True) v6 x6_2) ∧ Aside0 (Below w.heap.size w w'))
      case atStart => exact ⟨(x4_1), (y145), (x14_1), zt, H', ⟨Nat.le_refl _⟩, ⟨zmS HO_3 (fun _ hk => hk.2)⟩, ⟨zR_ HO_4⟩, ⟨zR_ HO147⟩, ⟨zB_ HB⟩⟩
      case round =>
       clear H'; (try clear c2); (try clear c2b0); (try clear c2b1); (try clear p2); (try clear c3); (try clear c3b0); (try clear c3b1); (try clear c8); (try clear c8b0); (try clear p2); obtain ⟨x4_2, x6_2, x7_2, rfl, HA, HK2, HO_3, HO_4, HO_6, HB⟩ := hrel
       cases gk with
       | zero => exact absurd HA.out (by simp [impl_cyclesOf.l1])
       | succ k2 =>
        have H := HA.out; clear HA; simp only [impl_cyclesOf.l1] at H
        by_cases c11 : 0 ≤ x7_2
        ·rw [if_pos c11] at H
         have c11b0 := dT c11; clear c11
         by_cases c12 : x7_2 < (x4_2.length : Int)
         ·rw [if_pos c12] at H
          have c12b0 := dT c12; clear c12
          obtain ⟨bq13, hbq13⟩ : ∃ b_ : Bool, b_ = (rdOf false x4_2 x7_2) := ⟨_, rfl⟩
          replace H : (if bq13 = true then (if (x6_2.length : Int) > 0 then (if x3_1.length < 5864062014805 then (impl_cyclesOf.l0 k2 l0 (x3_1 ++ [x6_2]) x4_2 (l0.length : Int) (wrap64 (x14_1 + 1))) else (none)) else (impl_cyclesOf.l0 k2 l0 x3_1 x4_2 (l0.length : Int) (wrap64 (x14_1 + 1)))) else (if x6_2.length < 17592186044416 then (if x7_2 < (l0.length : Int) then (impl_cyclesOf.l1 k2 l0 x3_1 (x4_2.set (x7_2 : Int).toNat true) (x6_2 ++ [x7_2]) (rd l0 x7_2) (l0.length : Int) x14_1) else (none)) else (none))) = some r := by rw [← hbq13] at H; exact H
          have Nbq13 := A0_ hbq13; clear hbq13
          by_cases c14 : bq13 = true
          ·subst c14
           rw [if_pos rfl] at H
           by_cases c15 : (x6_2.length : Int) > 0
           ·rw [if_pos c15] at H
            have c15b0 : decide (0 < (x6_2.length : Int)) = true := dT c15
            have c15b1 : decide (0 < x6_2.length) = true := dT (by omega)
            clear c15
            by_cases c16 : x3_1.length < 5864062014805
            ·rw [if_pos c16] at H
             have LMc16 := A0_ c16; clear c16
             obtain ⟨y149, hy149⟩ : ∃ y_ : List (List Int), y_ = (x3_1 ++ [x6_2]) := ⟨_, rfl⟩
             replace H : (impl_cyclesOf.l0 k2 l0 y149 x4_2 (l0.length : Int) (wrap64 (x14_1 + 1))) = some r := zH hy149 H
             have Ny149 := A0_ hy149; clear hy149; have H' := A0_ H; clear H; obtain ⟨Ao17, co17, eo17⟩ := rS HO_4.out; subst eo17
             have p148 : 0 ≤ (x7_2 : Int) := zd
             have q148 : x7_2 < (x4_2.length : Int) := zd
             obtain ⟨ad148, e148, hx148_0⟩ := Kd.at_bool (rR HO_4.out).2.2 x7_2 p148 q148
             (try rw [← Nbq13.out] at hx148_0)
             cases e148
             replace p148 := eq_true p148; replace q148 := eq_true q148; obtain ⟨Ao18, co18, eo18⟩ := rS HO_6.out; subst eo18
             go_wp2_with (first | ((with_reducible refine gB (b := .append) (xs := #[.tmp 38, .tmp 40]) rfl ?_); at_builtin; refine Kd.S_append (Kd.slice 3 (Kd.int .i64)) (w0 := w) w.heap.size rfl (.tmp 38) (.tmp 40) 68 23 (.slice none 0 0) 24 rfl Tryz.underlying68 info23 rfl (by decide) (by omega) u3 x3_1 x6_2 [.slice Ao18 x6_2.length co18] (fun _ => True) (fun k_ => some k_ = (.slice Ao18 x6_2.length co18 : Value).ownBlock) rfl rfl ?aP (fun k_ hk_ => ((rM (ok' := fun k_ => ((fun _ => True)) k_ ∧ some k_ ≠ (u3 : Value).ownBlock) (Kd.R_apart' (HO_6.out) (Kd.S_typed HO_3.out) (by decide)) (fun k_ hk => ⟨trivial, hk.2⟩))).1 k_ hk_.symm) ?aF ?aO ?aB ?aS ?aL ?_; (case aP => exact Kd.M_row (rM (Kd.R_tight rfl (rM (ok' := fun k_ => ((fun _ => True)) k_ ∧ some k_ ≠ (u3 : Value).ownBlock) (Kd.R_apart' (HO_6.out) (Kd.S_typed HO_3.out) (by decide)) (fun k_ hk => ⟨trivial, hk.2⟩))) (fun _ h_ => h_))); (case aB => exact (zB_ HB)); (case aF => exact (fun _ _ => trivial)); (case aO => exact (zmS HO_3 (fun k_ hk => ⟨trivial, fun e_ => hk e_⟩))); (case aS => exact (bZ (zB_ HB))); (case aL => have := LMc16.out; omega); intro v150 w19 ho hb hg hat; rw [← Ny149.out] at ho; replace HO_4 := A0_ (Kd.R_over' (zR_ HO_4) (Kd.S_typed (zS_ HO_3)) (by decide) hg); replace HB := A0_ (hb); have HO151 := A0_ (ho); clear HO_3 HO_6 ho hb hg hat))
             go_roundg k2
             case measure => have := HK1.out; have := HK2.out; omega
             case rel => exact ⟨(y149), (x4_2), (wrap64 (x14_1 + 1)), zt, H', ⟨by have := HK1.out; have := HK2.out; omega⟩, ⟨zS_ HO151⟩, ⟨zR_ HO_4⟩, ⟨zB_ HB⟩⟩
            rw [if_neg c16] at H
            exact absurd H (by simp)
           rw [if_neg c15] at H
           have c15b0 : decide (0 < (x6_2.length : Int)) = false := dF c15
           have c15b1 : decide (0 < x6_2.length) = false := dF (by omega)
           clear c15; have H' := A0_ H; clear H; obtain ⟨Ao20, co20, eo20⟩ := rS HO_4.out; subst eo20
           have p148 : 0 ≤ (x7_2 : Int) := zd
           have q148 : x7_2 < (x4_2.length : Int) := zd
           obtain ⟨ad148, e148, hx148_0⟩ := Kd.at_bool (rR HO_4.out).2.2 x7_2 p148 q148
           (try rw [← Nbq13.out] at hx148_0)
           cases e148
           replace p148 := eq_true p148; replace q148 := eq_true q148; obtain ⟨Ao21, co21, eo21⟩ := rS HO_6.out; subst eo21
           go_wp2
           go_roundg k2
           case measure => have := HK1.out; have := HK2.out; omega
           case rel => exact ⟨(x3_1), (x4_2), (wrap64 (x14_1 + 1)), zt, H', ⟨by have := HK1.out; have := HK2.out; omega⟩, ⟨zmS HO_3 (fun _ hk => trivial)⟩, ⟨zR_ HO_4⟩, ⟨zB_ HB⟩⟩
          replace c14 := Bool.eq_false_iff.mpr c14; subst c14
          rw [if_neg (show ¬ (false = true) by decide)] at H
          obtain ⟨y152, hy152⟩ : ∃ y_ : List Bool, y_ = (x4_2.set (x7_2 : Int).toNat true) := ⟨_, rfl⟩
          replace H : (if x6_2.length < 17592186044416 then (if x7_2 < (l0.length : Int) then (impl_cyclesOf.l1 k2 l0 x3_1 y152 (x6_2 ++ [x7_2]) (rd l0 x7_2) (l0.length : Int) x14_1) else (none)) else (none)) = some r := zH hy152 H
          have Ny152 := A0_ hy152; clear hy152
          by_cases c23 : x6_2.length < 17592186044416
          ·rw [if_pos c23] at H
           have LMc23 := A0_ c23; clear c23
           obtain ⟨y153, hy153⟩ : ∃ y_ : List Int, y_ = (x6_2 ++ [x7_2]) := ⟨_, rfl⟩
           replace H : (if x7_2 < (l0.length : Int) then (impl_cyclesOf.l1 k2 l0 x3_1 y152 y153 (rd l0 x7_2) (l0.length : Int) x14_1) else (none)) = some r := zH hy153 H
           have Ny153 := A0_ hy153; clear hy153
           by_cases c24 : x7_2 < (l0.length : Int)
           ·rw [if_pos c24] at H
            have c24b0 := dT c24; clear c24; have H' := A0_ H; clear H; obtain ⟨Ao25, co25, eo25⟩ := rS HO_4.out; subst eo25
            have p148 : 0 ≤ (x7_2 : Int) := zd
            have q148 : x7_2 < (x4_2.length : Int) := zd
            obtain ⟨ad148, e148, hx148_0⟩ := Kd.at_bool (rR HO_4.out).2.2 x7_2 p148 q148
            (try rw [← Nbq13.out] at hx148_0)
            cases e148
            replace p148 := eq_true p148; replace q148 := eq_true q148
            have p22 : 0 ≤ (x7_2 : Int) := zd
            have q22 : (x7_2 : Int) < ((x4_2.length : Int) : Int) := zd
            obtain ⟨go22, co22, eo22, gb22, gl22, cl22, HG22⟩ := Kd.R_form HO_4.out (by omega)
            (first | cases eo22 | (injection eo22 with ea_ en_ ec_; (first | subst ea_ | (injection ea_ with ea_; subst ea_)); subst ec_; clear en_))
            have GB22 := A0_ gb22; have GG22 := A0_ HG22; clear gb22 gl22 HG22
            (first | simp only [add_plain] at hx148_0 | skip)
            obtain ⟨hx22_0, hf22_0⟩ := Kd.R_celln false HO_4.out (x7_2 : Int) p22 q22
            replace p22 := eq_true p22; replace q22 := eq_true q22
            have HP26 := Kd.R_putg HO_4.out (x7_2 : Int) true
            go_wp2_with (first | ((with_reducible refine gS (t := 4) (p := 30) rfl ?_); refine store_event (t := 4) (p := 30) (v := ?vo_w27) (w1 := (wr.setCell ⟨go22, (x7_2 : Int).toNat, none⟩ (.bool true))) ?hg ?ho ?hn ?hr ?_; (case ho => rfl); (case hg => rfl); (case hn => rfl); (case hr => first | (go_simp; done) | (go_simp; rfl)); intro w27 hw; have hg : wr.grownBy w27 (some go22) := (by rw [hw]; exact HP26.2); have hp_ : Kd.R Kd.bool 4 w27 w.heap.size (fun _ => True) (.slice (some ⟨go22, 0, none⟩) x4_2.length co25) y152 := (by rw [hw, Ny152.out]; exact HP26.1); clear HP26; replace HO_3 := A0_ (Kd.S_over' (v := (.slice (some ⟨go22, 0, none⟩) x4_2.length co25)) (zS_ HO_3) (Kd.R_typed HO_4.out) (by decide) hg); replace HO_6 := A0_ (Kd.R_over' (v := (.slice (some ⟨go22, 0, none⟩) x4_2.length co25)) (zR_ HO_6) (Kd.R_typed HO_4.out) (by decide) hg); replace HO_4 := A0_ (hp_); replace HB := A0_ ((by rw [hw]; exact bS (HB.out) GB22.out : Below w.heap.size w w27)); clear hg hw hp_) | ((with_reducible refine gB (b := .append) (xs := #[.tmp 31, .tmp 33]) rfl ?_); at_builtin; refine Kd.R_append (Kd.int .i64) (w0 := w) w.heap.size rfl (.tmp 31) (.tmp 33) 23 3 (.int .i64 0) 8 rfl Tryz.underlying23 info3 rfl (by decide) (by omega) u6 x6_2 x7_2 [.int .i64 x7_2] (fun _ => True) (fun _ => False) rfl rfl ?aP (fun _ hk => hk.elim) ?aF ?aO ?aB ?aS ?aL ?_; (case aP => exact rfl); (case aB => exact (zB_ HB)); (case aF => exact (fun _ _ => trivial)); (case aO => exact (zR_ HO_6)); (case aS => exact (bZ (zB_ HB))); (case aL => have := LMc23.out; omega); intro v154 w28 ho hb hg hat; rw [← Ny153.out] at ho; replace HO_3 := A0_ (Kd.S_after (ok := (fun _ => True)) (zmS HO_3 (fun _ hk => ⟨trivial, hk⟩)) hg hat); replace HO_4 := A0_ (Kd.R_over' (zR_ HO_4) (Kd.R_typed (zR_ HO_6)) (by decide) hg); replace HB := A0_ (hb); have HO155 := A0_ (ho); clear HO_6 ho hb hg hat; have p156 : 0 ≤ (x7_2 : Int) := zd; have q156 : x7_2 < (l0.length : Int) := zd; obtain ⟨ad156, e156, hx156_0⟩ := tI HR0.out x7_2 p156 q156; cases e156; try replace hx156_0 := (HB.out.cell (wL w _ hx156_0)).trans hx156_0; replace p156 := eq_true p156; replace q156 := eq_true q156))
            go_roundg k2
            case measure => have := HK1.out; have := HK2.out; omega
            case rel => exact ⟨(y152), (y153), (rd l0 x7_2), zt, H', ⟨by have := HK1.out; have := HK2.out; omega⟩, ⟨zmS HO_3 (fun _ hk => hk.2)⟩, ⟨zR_ HO_4⟩, ⟨zR_ HO155⟩, ⟨zB_ HB⟩⟩
           rw [if_neg c24] at H
           exact absurd H (by simp)
          rw [if_neg c23] at H
          exact absurd H (by simp)
         rw [if_neg c12] at H
         exact absurd H (by simp)
        rw [if_neg c11] at H
        exact absurd H (by simp)
     rw [if_neg c8] at H; have c8b0 := dF c8; clear c8; obtain rfl := sI H
     go_wp2
     go_ret
     exact ⟨_, by first | rfl | (simp [*] <;> rfl), zS_ HO_3, zB_ HB⟩
  rw [if_neg c3] at H
  exact absurd H (by simp)
 rw [if_neg c2] at H
 exact absurd H (by simp)

/-! ### slices_ContainsFunc_int_int: function 84 -/
set_option maxHeartbeats 8000000 in
set_option maxRecDepth 100000 in
theorem slices_ContainsFunc_int_int.rb1 (A : Option Addr) (c : Nat) (l : List Bool) (gc : Nat) (d : Int) (w : World) (hl : Kd.C Kd.bool w A l.length l) (hc : l.length ≤ c)
    (hb : w.heap[gc]? = some (.cells #[.slice A l.length c] 97 (0, 0))) (h0 : 0 ≤ d) (h1 : d < (l.length : Int)) :
    Calls Tryz.prog 85 #[.int .i64 d, .pointer (some ⟨gc, 0, none⟩)] w fun e w' => e = .returned (.bool (rdOf false l d)) ∧ Below w.heap.size w w' := by
 have HB := A0_ (Below.refl w.heap.size w)
 have hz : w.cell? ⟨gc, 0, none⟩ = some (.slice A l.length c) := (kC hb 0).trans rfl
 obtain ⟨ad, ea, hx⟩ := Kd.at_bool hl d h0 h1; subst ea
 have HL := A0_ hl; have HB0 := A0_ hb; clear hl hb
 have p0 := eq_true h0; have p1 := eq_true h1
 go_enter Tryz.func85, Tryz.ntmps85
 go_wp2
 go_ret
 exact ⟨rfl, by repeat (first | exact HB.out | apply bA | apply bN | apply bD)⟩
/-- Is one of the first i points among those that are told? -/
def slices_ContainsFunc_int_int.hasB (l : List Int) (b : List Bool) (i : Nat) : Bool := (l.take i).any (fun x => rdOf false b x)
theorem slices_ContainsFunc_int_int.hasB_succ (l : List Int) (b : List Bool) (i : Nat) (h : i < l.length) : slices_ContainsFunc_int_int.hasB l b (i + 1) = (slices_ContainsFunc_int_int.hasB l b i || rdOf false b (rd l (i : Int))) := by
  unfold slices_ContainsFunc_int_int.hasB
  rw [List.take_succ_eq_append_getElem h, List.any_append]
  simp [rd, List.getD_eq_getElem?_getD, h]
theorem slices_ContainsFunc_int_int.hasB_up (l : List Int) (b : List Bool) {i j : Nat} (h : i ≤ j) (q : slices_ContainsFunc_int_int.hasB l b i = true) : slices_ContainsFunc_int_int.hasB l b j = true := by
  unfold slices_ContainsFunc_int_int.hasB at *
  obtain ⟨x, hx, e⟩ := List.any_eq_true.1 q
  exact List.any_eq_true.2 ⟨x, (List.take_subset_take_left l h) hx, e⟩
set_option maxHeartbeats 8000000 in
set_option maxRecDepth 100000 in
theorem slices_ContainsFunc_int_int.ix1 (A0 : Option Addr) (c0 : Nat) (l : List Int) (A : Option Addr) (c : Nat) (b : List Bool) (gc : Nat) (w : World) (hl : Kd.C (Kd.int .i64) w A0 l.length l) (hc0 : l.length ≤ c0) (hb : Kd.C Kd.bool w A b.length b) (hc : b.length ≤ c)
    (hbx : w.heap[gc]? = some (.cells #[.slice A b.length c] 97 (0, 0))) (hall : ∀ i, 0 ≤ i → i < (l.length : Int) → 0 ≤ rd l i ∧ rd l i < (b.length : Int)) :
    Calls Tryz.prog 117 #[.slice A0 l.length c0, .func (.func 85) #[] #[.pointer (some ⟨gc, 0, none⟩)]] w fun e w' => (∃ r : Int, e = .returned (.int .i64 r) ∧ (0 ≤ r ↔ slices_ContainsFunc_int_int.hasB l b l.length = true)) ∧ Below w.heap.size w w' := by
 have HB := A0_ (Below.refl w.heap.size w)
 have HL := A0_ hl; have HA := A0_ hall; have HBX := A0_ hbx; have HBB := A0_ hb; have HC := A0_ hc; have HC0 := A0_ hc0
 clear hl hall hbx hb hc hc0
 go_enter Tryz.func117, Tryz.ntmps117
 go_wp2
 go_loopw [8] (fun v8 wr => ∃ (i : Int), v8 = .int .i64 i ∧ Aside0 (0 ≤ i ∧ i ≤ (l.length : Int) ∧ slices_ContainsFunc_int_int.hasB l b i.toNat = false) ∧ Aside0 (Below w.heap.size w wr)) (fun i _ => l.length - (intOf i).toNat)
 case atStart => exact ⟨0, rfl, ⟨by omega, by omega, by simp [slices_ContainsFunc_int_int.hasB]⟩, ⟨by repeat (first | exact HB.out | apply bA | apply bN | apply bD)⟩⟩
 case round =>
  clear HB; obtain ⟨i, rfl, HI, HB⟩ := hrel; obtain ⟨hi0, hi1, hi2⟩ := HI.out
  by_cases c1 : i < (l.length : Int)
  · obtain ⟨ad, ea, hx⟩ := tI (cB HL.out HB.out) i hi0 c1
    subst ea; have hr := HA.out i hi0 c1
    have hR := slices_ContainsFunc_int_int.rb1 A c b gc (rd l i) wr (cB HBB.out HB.out) HC.out (kB HBX.out HB.out) hr.1 hr.2
    have HR := A0_ hR; clear hR
    have p0 := eq_true hi0; have p1 := eq_true c1
    have hs := slices_ContainsFunc_int_int.hasB_succ l b i.toNat (by omega)
    rw [Int.toNat_of_nonneg hi0, hi2, Bool.false_or] at hs
    have HS := A0_ hs; clear hs
    have HLt := A0_ c1
    have HW := A0_ (show wrap64 (i + 1) = i + 1 by have := HLt.out; have := HI.out; have := HL.out.2.1; unfold wrap64; omega)
    clear hi0 hi1 hi2 hr c1
    cases q : rdOf false b (rd l i)
    · rw [q] at HR HS
      go_wp2_with (go_at_call 85; refine HR.out.mono ?_; rintro e w' ⟨rfl, hb'⟩)
      go_roundw
      case rel => exact ⟨i + 1, by rw [HW.out], ⟨by have := HI.out; have := HLt.out; omega, by have := HI.out; have := HLt.out; omega, by rw [show (i + 1).toNat = i.toNat + 1 by have := HI.out; omega]; exact HS.out⟩, ⟨by repeat (first | exact bT HB.out hb' | apply bA | apply bN | apply bD)⟩⟩
      case measure => simp only [intOf, HW.out]; have := HI.out; have := HLt.out; omega
    rw [q] at HR HS
    go_wp2_with (go_at_call 85; refine HR.out.mono ?_; rintro e w' ⟨rfl, hb'⟩)
    go_ret
    exact ⟨⟨i, rfl, ⟨fun _ => slices_ContainsFunc_int_int.hasB_up l b (by have := HLt.out; have := HI.out; omega) HS.out, fun _ => HI.out.1⟩⟩, by repeat (first | exact bT HB.out hb' | apply bA | apply bN | apply bD)⟩
  have p1 := eq_false c1
  have e1 : i.toNat = l.length := by omega
  rw [e1] at hi2; clear hi0 hi1 c1
  go_wp2
  go_ret
  exact ⟨⟨-1, rfl, ⟨fun h_ => absurd h_ (by decide), fun h_ => by rw [hi2] at h_; cases h_⟩⟩, by repeat (first | exact HB.out | apply bA | apply bN | apply bD)⟩
set_option maxHeartbeats 8000000 in
set_option maxRecDepth 100000 in
theorem slices_ContainsFunc_int_int.cf1 (A0 : Option Addr) (c0 : Nat) (l : List Int) (A : Option Addr) (c : Nat) (b : List Bool) (gc : Nat) (w : World) (hl : Kd.C (Kd.int .i64) w A0 l.length l) (hc0 : l.length ≤ c0) (hb : Kd.C Kd.bool w A b.length b) (hc : b.length ≤ c)
    (hbx : w.heap[gc]? = some (.cells #[.slice A b.length c] 97 (0, 0))) (hall : ∀ i, 0 ≤ i → i < (l.length : Int) → 0 ≤ rd l i ∧ rd l i < (b.length : Int)) :
    Calls Tryz.prog 84 #[.slice A0 l.length c0, .func (.func 85) #[] #[.pointer (some ⟨gc, 0, none⟩)]] w fun e w' => e = .returned (.bool (slices_ContainsFunc_int_int.hasB l b l.length)) ∧ Below w.heap.size w w' := by
 have HI := A0_ (slices_ContainsFunc_int_int.ix1 A0 c0 l A c b gc w hl hc0 hb hc hbx hall)
 clear hl hc0 hb hc hbx hall
 go_enter Tryz.func84, Tryz.ntmps84
 go_wp2_with (go_at_call 117; refine HI.out.mono ?_; rintro e w' ⟨⟨r, rfl, hr⟩, hb'⟩)
 go_ret
 refine ⟨?_, by repeat (first | exact hb' | apply bA | apply bN | apply bD)⟩
 cases q : slices_ContainsFunc_int_int.hasB l b l.length
 · rw [q] at hr
   have : ¬ 0 ≤ r := fun h_ => by have := hr.1 h_; cases this
   simp [this]
 have : 0 ≤ r := hr.2 q
 simp [this]
def slices_ContainsFunc_int_int.f (l0 : List Int) (l1 : List Bool) : Option Bool := if ∀ i : Fin l0.length, 0 ≤ rd l0 (i.val : Int) ∧ rd l0 (i.val : Int) < (l1.length : Int) then some (slices_ContainsFunc_int_int.hasB l0 l1 l0.length) else none
theorem slices_ContainsFunc_int_int.calls (A0 : Option Addr) (c0 : Nat) (l0 : List Int) (A1 : Option Addr) (c1 : Nat) (l1 : List Bool) (gb : Nat) (r : Bool) (w : World) (hr0 : Kd.C (Kd.int .i64) w A0 l0.length l0) (hc0 : l0.length ≤ c0) (hr1 : Kd.C Kd.bool w A1 l1.length l1) (hc1 : l1.length ≤ c1) (hb : w.heap[gb]? = some (.cells #[.slice A1 l1.length c1] 97 (0, 0))) (h : slices_ContainsFunc_int_int.f l0 l1 = some r) :
    Calls Tryz.prog 84 #[.slice A0 l0.length c0, .func (.func 85) #[] #[.pointer (some ⟨gb, 0, none⟩)]] w fun e w' => e = .returned (.bool r) ∧ Below w.heap.size w w' := by
  unfold slices_ContainsFunc_int_int.f at h
  split at h
  · rename_i q
    obtain rfl := sI h
    exact slices_ContainsFunc_int_int.cf1 A0 c0 l0 A1 c1 l1 gb w hr0 hc0 hr1 hc1 hb (fun i h0 h1 => by have := q ⟨i.toNat, by omega⟩; rw [show ((i.toNat : Nat) : Int) = i by omega] at this; exact this)
  cases h


end Go.Proofs.YtjebcgbmlbemcaaGreatDoor.PFnExecuteValue
