-- Made by a program of this session (wip/tools) out of the loaded program; not trusted: Lean checks it.
import Derived.Test.YtikkokflcgcnbaaGreatDoorPFnExecuteClassx0
import Derived.Test.YtikkokflcgcnbaaGreatDoorPFnExecuteClassx1
-- packed
namespace Go.Proofs.YtikkokflcgcnbaaGreatDoor.PFnExecuteClass
open Go.RowKit Go.Proofs.YtikkokflcgcnbaaGreatDoorW.PrintWords Go.Proofs.YtikkokflcgcnbaaGreatDoorW.PrintLast Go.Proofs.YtikkokflcgcnbaaGreatDoorW.PrintMore
attribute [local go_sem] max2_int min2_int max_two min_two max_three min_three max_four min_four   -- for this text's walks alone
set_option linter.unusedVariables false
set_option linter.unusedSimpArgs false

/-! ### impl_orbits: function 62 -/
mutual
def impl_orbits.l0 : Nat → List (List Int) → List Int → Bool → Option (List Int)
  | 0, _, _, _ => none
  | k + 1, x0, x3, x4 => if x4 = true then (impl_orbits.l1 k x0 x3 false x0 (x0.length : Int) 0) else (some x3)
def impl_orbits.l1 : Nat → List (List Int) → List Int → Bool → List (List Int) → Int → Int → Option (List Int)
  | 0, _, _, _, _, _, _ => none
  | k + 1, x0, x3, x4, x16, x17, x18 => if x18 < x17 then (if 0 ≤ x18 then (if x18 < (x16.length : Int) then (impl_orbits.l2 k x0 x3 x4 x16 x17 x18 (rd_L1 x16 x18) ((rd_L1 x16 x18).length : Int) 0) else (none)) else (none)) else (impl_orbits.l0 k x0 x3 x4)
def impl_orbits.l2 : Nat → List (List Int) → List Int → Bool → List (List Int) → Int → Int → List Int → Int → Int → Option (List Int)
  | 0, _, _, _, _, _, _, _, _, _ => none
  | k + 1, x0, x3, x4, x16, x17, x18, x22, x23, x24 => if x24 < x23 then (if 0 ≤ x24 then (if x24 < (x22.length : Int) then (if x24 < (x3.length : Int) then (if 0 ≤ (rd x22 x24) then (if (rd x22 x24) < (x3.length : Int) then (if (rd x3 x24) = (mn (rd x3 x24) (rd x3 (rd x22 x24))) then (if (rd x3 (rd x22 x24)) = (mn (rd x3 x24) (rd x3 (rd x22 x24))) then (impl_orbits.l2 k x0 x3 x4 x16 x17 x18 x22 x23 (wrap64 (x24 + 1))) else (impl_orbits.l2 k x0 ((x3.set (x24 : Int).toNat (mn (rd x3 x24) (rd x3 (rd x22 x24)))).set ((rd x22 x24) : Int).toNat (mn (rd x3 x24) (rd x3 (rd x22 x24)))) true x16 x17 x18 x22 x23 (wrap64 (x24 + 1)))) else (impl_orbits.l2 k x0 ((x3.set (x24 : Int).toNat (mn (rd x3 x24) (rd x3 (rd x22 x24)))).set ((rd x22 x24) : Int).toNat (mn (rd x3 x24) (rd x3 (rd x22 x24)))) true x16 x17 x18 x22 x23 (wrap64 (x24 + 1)))) else (none)) else (none)) else (none)) else (none)) else (none)) else (impl_orbits.l1 k x0 x3 x4 x16 x17 (wrap64 (x18 + 1)))
end
def impl_orbits.f (k : Nat) (l0 : List (List Int)) : Option (List Int) := if 0 < (l0.length : Int) then ((impl_still.f k ((rd_L1 l0 0).length : Int)).bind fun t106 => (impl_orbits.l0 k l0 t106 true)) else (none)
set_option maxHeartbeats 8000000 in
set_option maxRecDepth 100000 in
theorem impl_orbits.calls (k : Nat) (A0 : Option Addr) (c0 : Nat) (l0 : List (List Int)) (r : List Int) (w : World) (hr0 : Kd.C (Kd.slice 3 (Kd.int .i64)) w A0 l0.length l0) (hc0 : l0.length ≤ c0) (h : impl_orbits.f k l0 = some r) :
    Calls Tryz.prog 62 #[.slice A0 l0.length c0] w fun e w' => ∃ v0_ : Value, e = .returned (v0_) ∧ Kd.R (Kd.int .i64) 3 w' w.heap.size (fun _ => True) v0_ r ∧ Below w.heap.size w w' := by
 have HR0 := A0_ hr0; have HC0 := A0_ hc0; clear hr0 hc0
 have HB := A0_ (Below.refl w.heap.size w)
 have H : (if 0 < (l0.length : Int) then ((impl_still.f k ((rd_L1 l0 0).length : Int)).bind fun t106 => (impl_orbits.l0 k l0 t106 true)) else (none)) = some r := h
 clear h
 by_cases c2 : 0 < (l0.length : Int)
 ·rw [if_pos c2] at H
  have c2b0 := dT c2
  have c2b1 : decide (0 < l0.length) = true := dT (by omega)
  clear c2; obtain ⟨t106, A3, H⟩ := zbind H; have H' := A0_ H; clear H
  have p105 : 0 ≤ (0 : Int) := (by omega)
  have q105 : 0 < (l0.length : Int) := zd
  obtain ⟨ad105, A105_0, c105_0, e105, hx105_0, hl105_0, hi105_0⟩ := at_L1 HR0.out 0 p105 q105
  cases e105
  have qi105 : (0 < l0.length) = True := eq_true (by omega)
  (try rw [show ((0 : Int)).toNat = 0 from rfl] at hx105_0)
  (try rw [Addr.add_zero'] at hx105_0)
  have HR105_0 := A0_ hi105_0; have HC105_0 := A0_ hl105_0; clear hi105_0 hl105_0; replace p105 := eq_true p105; replace q105 := eq_true q105
  go_enter Tryz.func62, Tryz.ntmps62
  go_wp2_with (first | (go_at_call 98; (with_reducible refine (impl_still.calls k ((rd_L1 l0 0).length : Int) t106 _ A3.out).mono ?_); rintro e w4 ⟨v107, rfl, ho0, hb⟩; have HO108 := A0_ (rL ho0 (bZ (zB_ HB))); replace HB := zB HB hb; (try clear hb); (try clear ho0)))
  repeat (go_quiet (first | (go_at_call 98; (with_reducible refine (impl_still.calls k ((rd_L1 l0 0).length : Int) t106 _ A3.out).mono ?_); rintro e w4 ⟨v107, rfl, ho0, hb⟩; have HO108 := A0_ (rL ho0 (bZ (zB_ HB))); replace HB := zB HB hb; (try clear hb); (try clear ho0))); try go_wp2_with (first | (go_at_call 98; (with_reducible refine (impl_still.calls k ((rd_L1 l0 0).length : Int) t106 _ A3.out).mono ?_); rintro e w4 ⟨v107, rfl, ho0, hb⟩; have n0_ := A0_ (rL ho0 (bZ (zB_ HB))); have n1_ := zB HB hb; clear HB; have HO108 := n0_; have HB := n1_; clear n0_ n1_; (try clear hb); (try clear hb2); (try clear hk); (try clear hi); (try clear ho0))))
  go_loopg [4] k (fun kq v4 w' => ∃ (x3_1 : List Int) (x4_1 : Bool), v4 = .bool x4_1 ∧ Aside0 (impl_orbits.l0 kq l0 x3_1 x4_1 = some r) ∧ Aside0 (kq ≤ k) ∧ Aside0 (Kd.R (Kd.int .i64) 3 w' w.heap.size (fun _ => True) v107 x3_1) ∧ Aside0 (Below w.heap.size w w'))
  case atStart => exact ⟨(t106), (true), zt, H', ⟨Nat.le_refl _⟩, ⟨zR_ HO108⟩, ⟨zB_ HB⟩⟩
  case round =>
   clear H'; (try clear c1); (try clear p1); (try clear q1); (try clear hx1); (try clear qi1); (try clear c2); (try clear c2b0); (try clear c2b1); (try clear p2); (try clear hx105_0); (try clear p105); (try clear q105); obtain ⟨x3_1, x4_1, rfl, HA, HK1, HO_3, HB⟩ := hrel
   cases gk with
   | zero => exact absurd HA.out (by simp [impl_orbits.l0])
   | succ k1 =>
    have H := HA.out; clear HA; simp only [impl_orbits.l0] at H
    by_cases c5 : x4_1 = true
    ·subst c5
     rw [if_pos rfl] at H; have H' := A0_ H; clear H
     go_wp2
     repeat (go_quiet (fail); try go_wp2)
     go_loopg [4, 18] k1 (fun kq v4 v18 w' => ∃ (x3_2 : List Int) (x4_2 : Bool) (x18_2 : Int), v4 = .bool x4_2 ∧ v18 = .int .i64 x18_2 ∧ Aside0 (impl_orbits.l1 kq l0 x3_2 x4_2 l0 (l0.length : Int) x18_2 = some r) ∧ Aside0 (kq ≤ k1) ∧ Aside0 (Kd.R (Kd.int .i64) 3 w' w.heap.size (fun _ => True) v107 x3_2) ∧ Aside0 (Below w.heap.size w w'))
     case atStart => exact ⟨(x3_1), (false), (0), zt, zt, H', ⟨Nat.le_refl _⟩, ⟨zR_ HO_3⟩, ⟨zB_ HB⟩⟩
     case round =>
      clear H'; (try clear c1); (try clear p1); (try clear q1); (try clear hx1); (try clear qi1); (try clear c2); (try clear c2b0); (try clear c2b1); (try clear p2); (try clear c5); (try clear hx105_0); (try clear p1); (try clear p105); (try clear p2); (try clear q1); (try clear q105); obtain ⟨x3_2, x4_2, x18_2, rfl, rfl, HA, HK2, HO_3, HB⟩ := hrel
      cases gk with
      | zero => exact absurd HA.out (by simp [impl_orbits.l1])
      | succ k2 =>
       have H := HA.out; clear HA; simp only [impl_orbits.l1] at H
       by_cases c6 : x18_2 < (l0.length : Int)
       ·rw [if_pos c6] at H
        have c6b0 := dT c6; clear c6
        by_cases c7 : 0 ≤ x18_2
        ·rw [if_pos c7] at H
         have c7b0 := dT c7; clear c7
         by_cases c8 : x18_2 < (l0.length : Int)
         ·rw [if_pos c8] at H
          have c8b0 := dT c8; clear c8; have H' := A0_ H; clear H
          have p109 : 0 ≤ (x18_2 : Int) := zd
          have q109 : x18_2 < (l0.length : Int) := zd
          obtain ⟨ad109, A109_0, c109_0, e109, hx109_0, hl109_0, hi109_0⟩ := at_L1 HR0.out x18_2 p109 q109
          obtain rfl : ad105 = ad109 := (by injection e109)
          try replace hx109_0 := (HB.out.cell (wL w _ hx109_0)).trans hx109_0
          have HR109_0 := A0_ hi109_0; have HC109_0 := A0_ hl109_0; clear hi109_0 hl109_0; replace p109 := eq_true p109; replace q109 := eq_true q109
          go_wp2
          repeat (go_quiet (fail); try go_wp2)
          go_loopg [4, 24] k2 (fun kq v4 v24 w' => ∃ (x3_3 : List Int) (x4_3 : Bool) (x24_3 : Int), v4 = .bool x4_3 ∧ v24 = .int .i64 x24_3 ∧ Aside0 (impl_orbits.l2 kq l0 x3_3 x4_3 l0 (l0.length : Int) x18_2 (rd_L1 l0 x18_2) ((rd_L1 l0 x18_2).length : Int) x24_3 = some r) ∧ Aside0 (kq ≤ k2) ∧ Aside0 (Kd.R (Kd.int .i64) 3 w' w.heap.size (fun _ => True) v107 x3_3) ∧ Aside0 (Below w.heap.size w w'))
          case atStart => exact ⟨(x3_2), (x4_2), (0), zt, zt, H', ⟨Nat.le_refl _⟩, ⟨zR_ HO_3⟩, ⟨zB_ HB⟩⟩
          case round =>
           clear H'; (try clear c1); (try clear p1); (try clear q1); (try clear hx1); (try clear qi1); (try clear c2); (try clear c2b0); (try clear c2b1); (try clear p2); (try clear c5); (try clear c6); (try clear c6b0); (try clear c7); (try clear c7b0); (try clear c8); (try clear c8b0); (try clear hx105_0); (try clear hx109_0); (try clear p1); (try clear p105); (try clear p109); (try clear p2); (try clear q1); (try clear q105); (try clear q109); obtain ⟨x3_3, x4_3, x24_3, rfl, rfl, HA, HK3, HO_3, HB⟩ := hrel
           cases gk with
           | zero => exact absurd HA.out (by simp [impl_orbits.l2])
           | succ k3 =>
            have H := HA.out; clear HA; simp only [impl_orbits.l2] at H
            by_cases c9 : x24_3 < ((rd_L1 l0 x18_2).length : Int)
            ·rw [if_pos c9] at H
             have c9b0 := dT c9; clear c9
             by_cases c10 : 0 ≤ x24_3
             ·rw [if_pos c10] at H
              have c10b0 := dT c10; clear c10
              by_cases c11 : x24_3 < ((rd_L1 l0 x18_2).length : Int)
              ·rw [if_pos c11] at H
               have c11b0 := dT c11; clear c11
               by_cases c12 : x24_3 < (x3_3.length : Int)
               ·rw [if_pos c12] at H
                have c12b0 := dT c12; clear c12
                by_cases c13 : 0 ≤ (rd (rd_L1 l0 x18_2) x24_3)
                ·rw [if_pos c13] at H
                 have c13b0 := dT c13; clear c13
                 by_cases c14 : (rd (rd_L1 l0 x18_2) x24_3) < (x3_3.length : Int)
                 ·rw [if_pos c14] at H
                  have c14b0 := dT c14; clear c14
                  obtain ⟨ji15, hji15⟩ : ∃ j_ : Int, (mn (rd x3_3 x24_3) (rd x3_3 (rd (rd_L1 l0 x18_2) x24_3))) = j_ := ⟨_, rfl⟩
                  replace H : (if (rd x3_3 x24_3) = (ji15) then (if (rd x3_3 (rd (rd_L1 l0 x18_2) x24_3)) = (ji15) then (impl_orbits.l2 k3 l0 x3_3 x4_3 l0 (l0.length : Int) x18_2 (rd_L1 l0 x18_2) ((rd_L1 l0 x18_2).length : Int) (wrap64 (x24_3 + 1))) else (impl_orbits.l2 k3 l0 ((x3_3.set (x24_3 : Int).toNat (ji15)).set ((rd (rd_L1 l0 x18_2) x24_3) : Int).toNat (ji15)) true l0 (l0.length : Int) x18_2 (rd_L1 l0 x18_2) ((rd_L1 l0 x18_2).length : Int) (wrap64 (x24_3 + 1)))) else (impl_orbits.l2 k3 l0 ((x3_3.set (x24_3 : Int).toNat (ji15)).set ((rd (rd_L1 l0 x18_2) x24_3) : Int).toNat (ji15)) true l0 (l0.length : Int) x18_2 (rd_L1 l0 x18_2) ((rd_L1 l0 x18_2).length : Int) (wrap64 (x24_3 + 1)))) = some r := by first | (rw [hji15] at H; exact H) | (simp only [hji15] at H ⊢; exact H)
                  have hji15_ : (if (rd x3_3 (rd (rd_L1 l0 x18_2) x24_3)) < (rd x3_3 x24_3) then (rd x3_3 (rd (rd_L1 l0 x18_2) x24_3)) else (rd x3_3 x24_3)) = ji15 := hji15
                  by_cases c16 : (rd x3_3 x24_3) = (ji15)
                  ·rw [if_pos c16] at H
                   have c16b0 : ((rd x3_3 x24_3) == (ji15)) = true := beq_iff_eq.mpr c16
                   have c16b1 : ((rd x3_3 x24_3) != (ji15)) = false := bne_eq_false_iff_eq.mpr c16
                   clear c16
                   by_cases c17 : (rd x3_3 (rd (rd_L1 l0 x18_2) x24_3)) = (ji15)
                   ·rw [if_pos c17] at H
                    have c17b0 : ((rd x3_3 (rd (rd_L1 l0 x18_2) x24_3)) == (ji15)) = true := beq_iff_eq.mpr c17
                    have c17b1 : ((rd x3_3 (rd (rd_L1 l0 x18_2) x24_3)) != (ji15)) = false := bne_eq_false_iff_eq.mpr c17
                    clear c17; have H' := A0_ H; clear H
                    have p110 : 0 ≤ (x24_3 : Int) := zd
                    have q110 : x24_3 < ((rd_L1 l0 x18_2).length : Int) := zd
                    obtain ⟨ad110, e110, hx110_0⟩ := tI HR109_0.out x24_3 p110 q110
                    cases e110
                    try replace hx110_0 := (HB.out.cell (wL w _ hx110_0)).trans hx110_0
                    replace p110 := eq_true p110; replace q110 := eq_true q110; obtain ⟨Ao18, co18, eo18⟩ := rS HO_3.out; subst eo18
                    have p111 : 0 ≤ (x24_3 : Int) := zd
                    have q111 : x24_3 < (x3_3.length : Int) := zd
                    obtain ⟨ad111, e111, hx111_0⟩ := tI (rR HO_3.out).2.2 x24_3 p111 q111
                    cases e111
                    replace p111 := eq_true p111; replace q111 := eq_true q111
                    have p112 : 0 ≤ ((rd (rd_L1 l0 x18_2) x24_3) : Int) := zd
                    have q112 : (rd (rd_L1 l0 x18_2) x24_3) < (x3_3.length : Int) := zd
                    obtain ⟨ad112, e112, hx112_0⟩ := tI (rR HO_3.out).2.2 (rd (rd_L1 l0 x18_2) x24_3) p112 q112
                    obtain rfl : ad111 = ad112 := (by injection e112)
                    replace p112 := eq_true p112; replace q112 := eq_true q112
                    have p113 : 0 ≤ (x24_3 : Int) := zd
                    have q113 : x24_3 < (x3_3.length : Int) := zd
                    obtain ⟨ad113, e113, hx113_0⟩ := tI (rR HO_3.out).2.2 x24_3 p113 q113
                    obtain rfl : ad111 = ad113 := (by injection e113)
                    replace p113 := eq_true p113; replace q113 := eq_true q113
                    have p114 : 0 ≤ ((rd (rd_L1 l0 x18_2) x24_3) : Int) := zd
                    have q114 : (rd (rd_L1 l0 x18_2) x24_3) < (x3_3.length : Int) := zd
                    obtain ⟨ad114, e114, hx114_0⟩ := tI (rR HO_3.out).2.2 (rd (rd_L1 l0 x18_2) x24_3) p114 q114
                    obtain rfl : ad111 = ad114 := (by injection e114)
                    replace p114 := eq_true p114; replace q114 := eq_true q114
                    go_wp2
                    repeat (go_quiet (fail); try go_wp2)
                    go_roundg k3
                    case measure => have := HK1.out; have := HK2.out; have := HK3.out; omega
                    case rel => exact ⟨(x3_3), (x4_3), (wrap64 (x24_3 + 1)), zt, zt, H', ⟨by have := HK1.out; have := HK2.out; have := HK3.out; omega⟩, ⟨zR_ HO_3⟩, ⟨zB_ HB⟩⟩
                   rw [if_neg c17] at H
                   have c17b0 : ((rd x3_3 (rd (rd_L1 l0 x18_2) x24_3)) == (ji15)) = false := beq_eq_false_iff_ne.mpr c17
                   have c17b1 : ((rd x3_3 (rd (rd_L1 l0 x18_2) x24_3)) != (ji15)) = true := bne_iff_ne.mpr c17
                   obtain ⟨y115, hy115⟩ : ∃ y_ : List Int, y_ = (x3_3.set (x24_3 : Int).toNat (ji15)) := ⟨_, rfl⟩
                   replace H : (impl_orbits.l2 k3 l0 (y115.set ((rd (rd_L1 l0 x18_2) x24_3) : Int).toNat (ji15)) true l0 (l0.length : Int) x18_2 (rd_L1 l0 x18_2) ((rd_L1 l0 x18_2).length : Int) (wrap64 (x24_3 + 1))) = some r := zH hy115 H
                   have Ny115 := A0_ hy115; clear hy115
                   obtain ⟨y116, hy116⟩ : ∃ y_ : List Int, y_ = (y115.set ((rd (rd_L1 l0 x18_2) x24_3) : Int).toNat (ji15)) := ⟨_, rfl⟩
                   replace H : (impl_orbits.l2 k3 l0 y116 true l0 (l0.length : Int) x18_2 (rd_L1 l0 x18_2) ((rd_L1 l0 x18_2).length : Int) (wrap64 (x24_3 + 1))) = some r := zH hy116 H
                   have Ny116 := A0_ hy116; clear hy116; have H' := A0_ H; clear H
                   have p110 : 0 ≤ (x24_3 : Int) := zd
                   have q110 : x24_3 < ((rd_L1 l0 x18_2).length : Int) := zd
                   obtain ⟨ad110, e110, hx110_0⟩ := tI HR109_0.out x24_3 p110 q110
                   cases e110
                   try replace hx110_0 := (HB.out.cell (wL w _ hx110_0)).trans hx110_0
                   replace p110 := eq_true p110; replace q110 := eq_true q110; obtain ⟨Ao21, co21, eo21⟩ := rS HO_3.out; subst eo21
                   have p111 : 0 ≤ (x24_3 : Int) := zd
                   have q111 : x24_3 < (x3_3.length : Int) := zd
                   obtain ⟨ad111, e111, hx111_0⟩ := tI (rR HO_3.out).2.2 x24_3 p111 q111
                   cases e111
                   replace p111 := eq_true p111; replace q111 := eq_true q111
                   have p112 : 0 ≤ ((rd (rd_L1 l0 x18_2) x24_3) : Int) := zd
                   have q112 : (rd (rd_L1 l0 x18_2) x24_3) < (x3_3.length : Int) := zd
                   obtain ⟨ad112, e112, hx112_0⟩ := tI (rR HO_3.out).2.2 (rd (rd_L1 l0 x18_2) x24_3) p112 q112
                   obtain rfl : ad111 = ad112 := (by injection e112)
                   replace p112 := eq_true p112; replace q112 := eq_true q112
                   have p113 : 0 ≤ (x24_3 : Int) := zd
                   have q113 : x24_3 < (x3_3.length : Int) := zd
                   obtain ⟨ad113, e113, hx113_0⟩ := tI (rR HO_3.out).2.2 x24_3 p113 q113
                   obtain rfl : ad111 = ad113 := (by injection e113)
                   replace p113 := eq_true p113; replace q113 := eq_true q113
                   have p114 : 0 ≤ ((rd (rd_L1 l0 x18_2) x24_3) : Int) := zd
                   have q114 : (rd (rd_L1 l0 x18_2) x24_3) < (x3_3.length : Int) := zd
                   obtain ⟨ad114, e114, hx114_0⟩ := tI (rR HO_3.out).2.2 (rd (rd_L1 l0 x18_2) x24_3) p114 q114
                   obtain rfl : ad111 = ad114 := (by injection e114)
                   replace p114 := eq_true p114; replace q114 := eq_true q114
                   have p19 : 0 ≤ (x24_3 : Int) := zd
                   have q19 : (x24_3 : Int) < ((x3_3.length : Int) : Int) := zd
                   obtain ⟨go19, co19, eo19, gb19, gl19, cl19, HG19⟩ := Kd.R_form HO_3.out (by omega)
                   (first | cases eo19 | (injection eo19 with ea_ en_ ec_; (first | subst ea_ | (injection ea_ with ea_; subst ea_)); subst ec_; clear en_))
                   have GB19 := A0_ gb19; have GG19 := A0_ HG19; clear gb19 gl19 HG19
                   (first | simp only [add_plain] at hx111_0 | skip)
                   (first | simp only [add_plain] at hx112_0 | skip)
                   (first | simp only [add_plain] at hx113_0 | skip)
                   (first | simp only [add_plain] at hx114_0 | skip)
                   obtain ⟨hx19_0, hf19_0⟩ := Kd.R_celln 0 HO_3.out (x24_3 : Int) p19 q19
                   replace p19 := eq_true p19; replace q19 := eq_true q19
                   have HP22 := Kd.R_putg HO_3.out (x24_3 : Int) ji15
                   go_wp2_with (first | ((with_reducible refine gS (t := 3) (p := 58) rfl ?_); (try (rw [drewN_self wr]; generalize hq_ : World.drewN wr _ = wr; have n0_ := A0_ (Kd.R_at hq_ HO_3.out); have n1_ := A0_ (below_at hq_ HB.out); clear hq_ HO_3 HB; have HO_3 := n0_; have HB := n1_; clear n0_ n1_; (try (obtain ⟨hx19_0, hf19_0⟩ := Kd.R_celln 0 HO_3.out (x24_3 : Int) (of_eq_true p19) (of_eq_true q19))); (try (have HP22 := Kd.R_putg HO_3.out (x24_3 : Int) ji15)))); refine store_event (t := 3) (p := 58) (v := ?vo_w23) (w1 := (wr.setCell ⟨go19, (x24_3 : Int).toNat, none⟩ (.int .i64 ji15))) ?hg ?ho ?hn ?hr ?_; (case ho => rfl); (case hg => rfl); (case hn => rfl); (case hr => first | (go_simp; done) | (go_simp; rfl) | (go_simp; congr 2; rw [← hji15]; unfold mn; omega)); intro w23 hw; have hg : wr.grownBy w23 (some go19) := (by rw [hw]; exact HP22.2); have hp_ : Kd.R (Kd.int .i64) 3 w23 w.heap.size (fun _ => True) (.slice (some ⟨go19, 0, none⟩) x3_3.length co21) y115 := (by rw [hw, Ny115.out]; exact HP22.1); clear HP22; replace HO_3 := A0_ (hp_); replace HB := A0_ ((by rw [hw]; exact bS (HB.out) GB19.out : Below w.heap.size w w23)); clear hg hw hp_; have p20 : 0 ≤ ((rd (rd_L1 l0 x18_2) x24_3) : Int) := zd; have q20 : ((rd (rd_L1 l0 x18_2) x24_3) : Int) < ((x3_3.length : Int) : Int) := zd; obtain ⟨hx20_0, hf20_0⟩ := Kd.R_celln 0 HO_3.out ((rd (rd_L1 l0 x18_2) x24_3) : Int) p20 q20; replace p20 := eq_true p20; replace q20 := eq_true q20; obtain ⟨hy24_, hz24_⟩ := Kd.R_celln 0 HO_3.out ((rd (rd_L1 l0 x18_2) x24_3) : Int) (zd) (zd); have HP24 := Kd.R_putg HO_3.out ((rd (rd_L1 l0 x18_2) x24_3) : Int) ji15) | ((with_reducible refine gS (t := 3) (p := 59) rfl ?_); (try (rw [drewN_self w23]; generalize hq_ : World.drewN w23 _ = w23; have n0_ := A0_ (Kd.R_at hq_ HO_3.out); have n1_ := A0_ (below_at hq_ HB.out); clear hq_ HO_3 HB; have HO_3 := n0_; have HB := n1_; clear n0_ n1_; (try (obtain ⟨hx19_0, hf19_0⟩ := Kd.R_celln 0 HO_3.out (x24_3 : Int) (of_eq_true p19) (of_eq_true q19))); (try (obtain ⟨hy24_, hz24_⟩ := Kd.R_celln 0 HO_3.out ((rd (rd_L1 l0 x18_2) x24_3) : Int) (zd) (zd))); (try (have HP24 := Kd.R_putg HO_3.out ((rd (rd_L1 l0 x18_2) x24_3) : Int) ji15)))); refine store_event (t := 3) (p := 59) (v := ?vo_w25) (w1 := (w23.setCell ⟨go19, ((rd (rd_L1 l0 x18_2) x24_3) : Int).toNat, none⟩ (.int .i64 ji15))) ?hg ?ho ?hn ?hr ?_; (case ho => rfl); (case hg => rfl); (case hn => rfl); (case hr => first | (go_simp; done) | (go_simp; rfl) | (go_simp; congr 2; rw [← hji15]; unfold mn; omega)); intro w25 hw; have hg : w23.grownBy w25 (some go19) := (by rw [hw]; exact HP24.2); have hp_ : Kd.R (Kd.int .i64) 3 w25 w.heap.size (fun _ => True) (.slice (some ⟨go19, 0, none⟩) x3_3.length co21) y116 := (by rw [hw, Ny116.out]; exact HP24.1); clear HP24; replace HO_3 := A0_ (hp_); replace HB := A0_ ((by rw [hw]; exact bS (HB.out) GB19.out : Below w.heap.size w w25)); clear hg hw hp_))
                   repeat (go_quiet (first | ((with_reducible refine gS (t := 3) (p := 58) rfl ?_); (try (rw [drewN_self wr]; generalize hq_ : World.drewN wr _ = wr; have n0_ := A0_ (Kd.R_at hq_ HO_3.out); have n1_ := A0_ (below_at hq_ HB.out); clear hq_ HO_3 HB; have HO_3 := n0_; have HB := n1_; clear n0_ n1_; (try (obtain ⟨hx19_0, hf19_0⟩ := Kd.R_celln 0 HO_3.out (x24_3 : Int) (of_eq_true p19) (of_eq_true q19))); (try (have HP22 := Kd.R_putg HO_3.out (x24_3 : Int) ji15)))); refine store_event (t := 3) (p := 58) (v := ?vo_w23) (w1 := (wr.setCell ⟨go19, (x24_3 : Int).toNat, none⟩ (.int .i64 ji15))) ?hg ?ho ?hn ?hr ?_; (case ho => rfl); (case hg => rfl); (case hn => rfl); (case hr => first | (go_simp; done) | (go_simp; rfl) | (go_simp; congr 2; rw [← hji15]; unfold mn; omega)); intro w23 hw; have hg : wr.grownBy w23 (some go19) := (by rw [hw]; exact HP22.2); have hp_ : Kd.R (Kd.int .i64) 3 w23 w.heap.size (fun _ => True) (.slice (some ⟨go19, 0, none⟩) x3_3.length co21) y115 := (by rw [hw, Ny115.out]; exact HP22.1); clear HP22; replace HO_3 := A0_ (hp_); replace HB := A0_ ((by rw [hw]; exact bS (HB.out) GB19.out : Below w.heap.size w w23)); clear hg hw hp_; have p20 : 0 ≤ ((rd (rd_L1 l0 x18_2) x24_3) : Int) := zd; have q20 : ((rd (rd_L1 l0 x18_2) x24_3) : Int) < ((x3_3.length : Int) : Int) := zd; obtain ⟨hx20_0, hf20_0⟩ := Kd.R_celln 0 HO_3.out ((rd (rd_L1 l0 x18_2) x24_3) : Int) p20 q20; replace p20 := eq_true p20; replace q20 := eq_true q20; obtain ⟨hy24_, hz24_⟩ := Kd.R_celln 0 HO_3.out ((rd (rd_L1 l0 x18_2) x24_3) : Int) (zd) (zd); have HP24 := Kd.R_putg HO_3.out ((rd (rd_L1 l0 x18_2) x24_3) : Int) ji15) | ((with_reducible refine gS (t := 3) (p := 59) rfl ?_); (try (rw [drewN_self w23]; generalize hq_ : World.drewN w23 _ = w23; have n0_ := A0_ (Kd.R_at hq_ HO_3.out); have n1_ := A0_ (below_at hq_ HB.out); clear hq_ HO_3 HB; have HO_3 := n0_; have HB := n1_; clear n0_ n1_; (try (obtain ⟨hx19_0, hf19_0⟩ := Kd.R_celln 0 HO_3.out (x24_3 : Int) (of_eq_true p19) (of_eq_true q19))); (try (obtain ⟨hy24_, hz24_⟩ := Kd.R_celln 0 HO_3.out ((rd (rd_L1 l0 x18_2) x24_3) : Int) (zd) (zd))); (try (have HP24 := Kd.R_putg HO_3.out ((rd (rd_L1 l0 x18_2) x24_3) : Int) ji15)))); refine store_event (t := 3) (p := 59) (v := ?vo_w25) (w1 := (w23.setCell ⟨go19, ((rd (rd_L1 l0 x18_2) x24_3) : Int).toNat, none⟩ (.int .i64 ji15))) ?hg ?ho ?hn ?hr ?_; (case ho => rfl); (case hg => rfl); (case hn => rfl); (case hr => first | (go_simp; done) | (go_simp; rfl) | (go_simp; congr 2; rw [← hji15]; unfold mn; omega)); intro w25 hw; have hg : w23.grownBy w25 (some go19) := (by rw [hw]; exact HP24.2); have hp_ : Kd.R (Kd.int .i64) 3 w25 w.heap.size (fun _ => True) (.slice (some ⟨go19, 0, none⟩) x3_3.length co21) y116 := (by rw [hw, Ny116.out]; exact HP24.1); clear HP24; replace HO_3 := A0_ (hp_); replace HB := A0_ ((by rw [hw]; exact bS (HB.out) GB19.out : Below w.heap.size w w25)); clear hg hw hp_)); try go_wp2_with (first | ((with_reducible refine gS (t := 3) (p := 58) rfl ?_); (try (rw [drewN_self wr]; generalize hq_ : World.drewN wr _ = wr; have n0_ := A0_ (Kd.R_at hq_ HO_3.out); have n1_ := A0_ (below_at hq_ HB.out); clear hq_ HO_3 HB; have HO_3 := n0_; have HB := n1_; clear n0_ n1_; (try (obtain ⟨hx19_0, hf19_0⟩ := Kd.R_celln 0 HO_3.out (x24_3 : Int) (of_eq_true p19) (of_eq_true q19))); (try (have HP22 := Kd.R_putg HO_3.out (x24_3 : Int) ji15)))); refine store_event (t := 3) (p := 58) (v := ?vo_w23) (w1 := (wr.setCell ⟨go19, (x24_3 : Int).toNat, none⟩ (.int .i64 ji15))) ?hg ?ho ?hn ?hr ?_; (case ho => rfl); (case hg => rfl); (case hn => rfl); (case hr => first | (go_simp; done) | (go_simp; rfl) | (go_simp; congr 2; rw [← hji15]; unfold mn; omega)); intro w23 hw; have hg : wr.grownBy w23 (some go19) := (by rw [hw]; exact HP22.2); have hp_ : Kd.R (Kd.int .i64) 3 w23 w.heap.size (fun _ => True) (.slice (some ⟨go19, 0, none⟩) x3_3.length co21) y115 := (by rw [hw, Ny115.out]; exact HP22.1); clear HP22; have n0_ := A0_ (hp_); have n1_ := A0_ ((by rw [hw]; exact bS (HB.out) GB19.out : Below w.heap.size w w23)); clear HO_3 HB; have HO_3 := n0_; have HB := n1_; clear n0_ n1_ hg hw hp_; have p20 : 0 ≤ ((rd (rd_L1 l0 x18_2) x24_3) : Int) := zd; have q20 : ((rd (rd_L1 l0 x18_2) x24_3) : Int) < ((x3_3.length : Int) : Int) := zd; obtain ⟨hx20_0, hf20_0⟩ := Kd.R_celln 0 HO_3.out ((rd (rd_L1 l0 x18_2) x24_3) : Int) p20 q20; replace p20 := eq_true p20; replace q20 := eq_true q20; obtain ⟨hy24_, hz24_⟩ := Kd.R_celln 0 HO_3.out ((rd (rd_L1 l0 x18_2) x24_3) : Int) (zd) (zd); have HP24 := Kd.R_putg HO_3.out ((rd (rd_L1 l0 x18_2) x24_3) : Int) ji15) | ((with_reducible refine gS (t := 3) (p := 59) rfl ?_); (try (rw [drewN_self w23]; generalize hq_ : World.drewN w23 _ = w23; have n0_ := A0_ (Kd.R_at hq_ HO_3.out); have n1_ := A0_ (below_at hq_ HB.out); clear hq_ HO_3 HB; have HO_3 := n0_; have HB := n1_; clear n0_ n1_; (try (obtain ⟨hx19_0, hf19_0⟩ := Kd.R_celln 0 HO_3.out (x24_3 : Int) (of_eq_true p19) (of_eq_true q19))); (try (obtain ⟨hy24_, hz24_⟩ := Kd.R_celln 0 HO_3.out ((rd (rd_L1 l0 x18_2) x24_3) : Int) (zd) (zd))); (try (have HP24 := Kd.R_putg HO_3.out ((rd (rd_L1 l0 x18_2) x24_3) : Int) ji15)))); refine store_event (t := 3) (p := 59) (v := ?vo_w25) (w1 := (w23.setCell ⟨go19, ((rd (rd_L1 l0 x18_2) x24_3) : Int).toNat, none⟩ (.int .i64 ji15))) ?hg ?ho ?hn ?hr ?_; (case ho => rfl); (case hg => rfl); (case hn => rfl); (case hr => first | (go_simp; done) | (go_simp; rfl) | (go_simp; congr 2; rw [← hji15]; unfold mn; omega)); intro w25 hw; have hg : w23.grownBy w25 (some go19) := (by rw [hw]; exact HP24.2); have hp_ : Kd.R (Kd.int .i64) 3 w25 w.heap.size (fun _ => True) (.slice (some ⟨go19, 0, none⟩) x3_3.length co21) y116 := (by rw [hw, Ny116.out]; exact HP24.1); clear HP24; have n0_ := A0_ (hp_); have n1_ := A0_ ((by rw [hw]; exact bS (HB.out) GB19.out : Below w.heap.size w w25)); clear HO_3 HB; have HO_3 := n0_; have HB := n1_; clear n0_ n1_ hg hw hp_)))
                   go_roundg k3
                   case measure => have := HK1.out; have := HK2.out; have := HK3.out; omega
                   case rel => exact ⟨(y116), (true), (wrap64 (x24_3 + 1)), zt, zt, H', ⟨by have := HK1.out; have := HK2.out; have := HK3.out; omega⟩, ⟨zR_ HO_3⟩, ⟨zB_ HB⟩⟩
                  rw [if_neg c16] at H
                  have c16b0 : ((rd x3_3 x24_3) == (ji15)) = false := beq_eq_false_iff_ne.mpr c16
                  have c16b1 : ((rd x3_3 x24_3) != (ji15)) = true := bne_iff_ne.mpr c16
                  obtain ⟨y117, hy117⟩ : ∃ y_ : List Int, y_ = (x3_3.set (x24_3 : Int).toNat (ji15)) := ⟨_, rfl⟩
                  replace H : (impl_orbits.l2 k3 l0 (y117.set ((rd (rd_L1 l0 x18_2) x24_3) : Int).toNat (ji15)) true l0 (l0.length : Int) x18_2 (rd_L1 l0 x18_2) ((rd_L1 l0 x18_2).length : Int) (wrap64 (x24_3 + 1))) = some r := zH hy117 H
                  have Ny117 := A0_ hy117; clear hy117
                  obtain ⟨y118, hy118⟩ : ∃ y_ : List Int, y_ = (y117.set ((rd (rd_L1 l0 x18_2) x24_3) : Int).toNat (ji15)) := ⟨_, rfl⟩
                  replace H : (impl_orbits.l2 k3 l0 y118 true l0 (l0.length : Int) x18_2 (rd_L1 l0 x18_2) ((rd_L1 l0 x18_2).length : Int) (wrap64 (x24_3 + 1))) = some r := zH hy118 H
                  have Ny118 := A0_ hy118; clear hy118; have H' := A0_ H; clear H
                  have p110 : 0 ≤ (x24_3 : Int) := zd
                  have q110 : x24_3 < ((rd_L1 l0 x18_2).length : Int) := zd
                  obtain ⟨ad110, e110, hx110_0⟩ := tI HR109_0.out x24_3 p110 q110
                  cases e110
                  try replace hx110_0 := (HB.out.cell (wL w _ hx110_0)).trans hx110_0
                  replace p110 := eq_true p110; replace q110 := eq_true q110; obtain ⟨Ao28, co28, eo28⟩ := rS HO_3.out; subst eo28
                  have p111 : 0 ≤ (x24_3 : Int) := zd
                  have q111 : x24_3 < (x3_3.length : Int) := zd
                  obtain ⟨ad111, e111, hx111_0⟩ := tI (rR HO_3.out).2.2 x24_3 p111 q111
                  cases e111
                  replace p111 := eq_true p111; replace q111 := eq_true q111
                  have p112 : 0 ≤ ((rd (rd_L1 l0 x18_2) x24_3) : Int) := zd
                  have q112 : (rd (rd_L1 l0 x18_2) x24_3) < (x3_3.length : Int) := zd
                  obtain ⟨ad112, e112, hx112_0⟩ := tI (rR HO_3.out).2.2 (rd (rd_L1 l0 x18_2) x24_3) p112 q112
                  obtain rfl : ad111 = ad112 := (by injection e112)
                  replace p112 := eq_true p112; replace q112 := eq_true q112
                  have p113 : 0 ≤ (x24_3 : Int) := zd
                  have q113 : x24_3 < (x3_3.length : Int) := zd
                  obtain ⟨ad113, e113, hx113_0⟩ := tI (rR HO_3.out).2.2 x24_3 p113 q113
                  obtain rfl : ad111 = ad113 := (by injection e113)
                  replace p113 := eq_true p113; replace q113 := eq_true q113
                  have p26 : 0 ≤ (x24_3 : Int) := zd
                  have q26 : (x24_3 : Int) < ((x3_3.length : Int) : Int) := zd
                  obtain ⟨go26, co26, eo26, gb26, gl26, cl26, HG26⟩ := Kd.R_form HO_3.out (by omega)
                  (first | cases eo26 | (injection eo26 with ea_ en_ ec_; (first | subst ea_ | (injection ea_ with ea_; subst ea_)); subst ec_; clear en_))
                  have GB26 := A0_ gb26; have GG26 := A0_ HG26; clear gb26 gl26 HG26
                  (first | simp only [add_plain] at hx111_0 | skip)
                  (first | simp only [add_plain] at hx112_0 | skip)
                  (first | simp only [add_plain] at hx113_0 | skip)
                  obtain ⟨hx26_0, hf26_0⟩ := Kd.R_celln 0 HO_3.out (x24_3 : Int) p26 q26
                  replace p26 := eq_true p26; replace q26 := eq_true q26
                  have HP29 := Kd.R_putg HO_3.out (x24_3 : Int) ji15
                  go_wp2_with (first | ((with_reducible refine gS (t := 3) (p := 58) rfl ?_); (try (rw [drewN_self wr]; generalize hq_ : World.drewN wr _ = wr; have n0_ := A0_ (Kd.R_at hq_ HO_3.out); have n1_ := A0_ (below_at hq_ HB.out); clear hq_ HO_3 HB; have HO_3 := n0_; have HB := n1_; clear n0_ n1_; (try (obtain ⟨hx26_0, hf26_0⟩ := Kd.R_celln 0 HO_3.out (x24_3 : Int) (of_eq_true p26) (of_eq_true q26))); (try (have HP29 := Kd.R_putg HO_3.out (x24_3 : Int) ji15)))); refine store_event (t := 3) (p := 58) (v := ?vo_w30) (w1 := (wr.setCell ⟨go26, (x24_3 : Int).toNat, none⟩ (.int .i64 ji15))) ?hg ?ho ?hn ?hr ?_; (case ho => rfl); (case hg => rfl); (case hn => rfl); (case hr => first | (go_simp; done) | (go_simp; rfl) | (go_simp; congr 2; rw [← hji15]; unfold mn; omega)); intro w30 hw; have hg : wr.grownBy w30 (some go26) := (by rw [hw]; exact HP29.2); have hp_ : Kd.R (Kd.int .i64) 3 w30 w.heap.size (fun _ => True) (.slice (some ⟨go26, 0, none⟩) x3_3.length co28) y117 := (by rw [hw, Ny117.out]; exact HP29.1); clear HP29; replace HO_3 := A0_ (hp_); replace HB := A0_ ((by rw [hw]; exact bS (HB.out) GB26.out : Below w.heap.size w w30)); clear hg hw hp_; have p27 : 0 ≤ ((rd (rd_L1 l0 x18_2) x24_3) : Int) := zd; have q27 : ((rd (rd_L1 l0 x18_2) x24_3) : Int) < ((x3_3.length : Int) : Int) := zd; obtain ⟨hx27_0, hf27_0⟩ := Kd.R_celln 0 HO_3.out ((rd (rd_L1 l0 x18_2) x24_3) : Int) p27 q27; replace p27 := eq_true p27; replace q27 := eq_true q27; obtain ⟨hy31_, hz31_⟩ := Kd.R_celln 0 HO_3.out ((rd (rd_L1 l0 x18_2) x24_3) : Int) (zd) (zd); have HP31 := Kd.R_putg HO_3.out ((rd (rd_L1 l0 x18_2) x24_3) : Int) ji15) | ((with_reducible refine gS (t := 3) (p := 59) rfl ?_); (try (rw [drewN_self w30]; generalize hq_ : World.drewN w30 _ = w30; have n0_ := A0_ (Kd.R_at hq_ HO_3.out); have n1_ := A0_ (below_at hq_ HB.out); clear hq_ HO_3 HB; have HO_3 := n0_; have HB := n1_; clear n0_ n1_; (try (obtain ⟨hx26_0, hf26_0⟩ := Kd.R_celln 0 HO_3.out (x24_3 : Int) (of_eq_true p26) (of_eq_true q26))); (try (obtain ⟨hy31_, hz31_⟩ := Kd.R_celln 0 HO_3.out ((rd (rd_L1 l0 x18_2) x24_3) : Int) (zd) (zd))); (try (have HP31 := Kd.R_putg HO_3.out ((rd (rd_L1 l0 x18_2) x24_3) : Int) ji15)))); refine store_event (t := 3) (p := 59) (v := ?vo_w32) (w1 := (w30.setCell ⟨go26, ((rd (rd_L1 l0 x18_2) x24_3) : Int).toNat, none⟩ (.int .i64 ji15))) ?hg ?ho ?hn ?hr ?_; (case ho => rfl); (case hg => rfl); (case hn => rfl); (case hr => first | (go_simp; done) | (go_simp; rfl) | (go_simp; congr 2; rw [← hji15]; unfold mn; omega)); intro w32 hw; have hg : w30.grownBy w32 (some go26) := (by rw [hw]; exact HP31.2); have hp_ : Kd.R (Kd.int .i64) 3 w32 w.heap.size (fun _ => True) (.slice (some ⟨go26, 0, none⟩) x3_3.length co28) y118 := (by rw [hw, Ny118.out]; exact HP31.1); clear HP31; replace HO_3 := A0_ (hp_); replace HB := A0_ ((by rw [hw]; exact bS (HB.out) GB26.out : Below w.heap.size w w32)); clear hg hw hp_))
                  repeat (go_quiet (first | ((with_reducible refine gS (t := 3) (p := 58) rfl ?_); (try (rw [drewN_self wr]; generalize hq_ : World.drewN wr _ = wr; have n0_ := A0_ (Kd.R_at hq_ HO_3.out); have n1_ := A0_ (below_at hq_ HB.out); clear hq_ HO_3 HB; have HO_3 := n0_; have HB := n1_; clear n0_ n1_; (try (obtain ⟨hx26_0, hf26_0⟩ := Kd.R_celln 0 HO_3.out (x24_3 : Int) (of_eq_true p26) (of_eq_true q26))); (try (have HP29 := Kd.R_putg HO_3.out (x24_3 : Int) ji15)))); refine store_event (t := 3) (p := 58) (v := ?vo_w30) (w1 := (wr.setCell ⟨go26, (x24_3 : Int).toNat, none⟩ (.int .i64 ji15))) ?hg ?ho ?hn ?hr ?_; (case ho => rfl); (case hg => rfl); (case hn => rfl); (case hr => first | (go_simp; done) | (go_simp; rfl) | (go_simp; congr 2; rw [← hji15]; unfold mn; omega)); intro w30 hw; have hg : wr.grownBy w30 (some go26) := (by rw [hw]; exact HP29.2); have hp_ : Kd.R (Kd.int .i64) 3 w30 w.heap.size (fun _ => True) (.slice (some ⟨go26, 0, none⟩) x3_3.length co28) y117 := (by rw [hw, Ny117.out]; exact HP29.1); clear HP29; replace HO_3 := A0_ (hp_); replace HB := A0_ ((by rw [hw]; exact bS (HB.out) GB26.out : Below w.heap.size w w30)); clear hg hw hp_; have p27 : 0 ≤ ((rd (rd_L1 l0 x18_2) x24_3) : Int) := zd; have q27 : ((rd (rd_L1 l0 x18_2) x24_3) : Int) < ((x3_3.length : Int) : Int) := zd; obtain ⟨hx27_0, hf27_0⟩ := Kd.R_celln 0 HO_3.out ((rd (rd_L1 l0 x18_2) x24_3) : Int) p27 q27; replace p27 := eq_true p27; replace q27 := eq_true q27; obtain ⟨hy31_, hz31_⟩ := Kd.R_celln 0 HO_3.out ((rd (rd_L1 l0 x18_2) x24_3) : Int) (zd) (zd); have HP31 := Kd.R_putg HO_3.out ((rd (rd_L1 l0 x18_2) x24_3) : Int) ji15) | ((with_reducible refine gS (t := 3) (p := 59) rfl ?_); (try (rw [drewN_self w30]; generalize hq_ : World.drewN w30 _ = w30; have n0_ := A0_ (Kd.R_at hq_ HO_3.out); have n1_ := A0_ (below_at hq_ HB.out); clear hq_ HO_3 HB; have HO_3 := n0_; have HB := n1_; clear n0_ n1_; (try (obtain ⟨hx26_0, hf26_0⟩ := Kd.R_celln 0 HO_3.out (x24_3 : Int) (of_eq_true p26) (of_eq_true q26))); (try (obtain ⟨hy31_, hz31_⟩ := Kd.R_celln 0 HO_3.out ((rd (rd_L1 l0 x18_2) x24_3) : Int) (zd) (zd))); (try (have HP31 := Kd.R_putg HO_3.out ((rd (rd_L1 l0 x18_2) x24_3) : Int) ji15)))); refine store_event (t := 3) (p := 59) (v := ?vo_w32) (w1 := (w30.setCell ⟨go26, ((rd (rd_L1 l0 x18_2) x24_3) : Int).toNat, none⟩ (.int .i64 ji15))) ?hg ?ho ?hn ?hr ?_; (case ho => rfl); (case hg => rfl); (case hn => rfl); (case hr => first | (go_simp; done) | (go_simp; rfl) | (go_simp; congr 2; rw [← hji15]; unfold mn; omega)); intro w32 hw; have hg : w30.grownBy w32 (some go26) := (by rw [hw]; exact HP31.2); have hp_ : Kd.R (Kd.int .i64) 3 w32 w.heap.size (fun _ => True) (.slice (some ⟨go26, 0, none⟩) x3_3.length co28) y118 := (by rw [hw, Ny118.out]; exact HP31.1); clear HP31; replace HO_3 := A0_ (hp_); replace HB := A0_ ((by rw [hw]; exact bS (HB.out) GB26.out : Below w.heap.size w w32)); clear hg hw hp_)); try go_wp2_with (first | ((with_reducible refine gS (t := 3) (p := 58) rfl ?_); (try (rw [drewN_self wr]; generalize hq_ : World.drewN wr _ = wr; have n0_ := A0_ (Kd.R_at hq_ HO_3.out); have n1_ := A0_ (below_at hq_ HB.out); clear hq_ HO_3 HB; have HO_3 := n0_; have HB := n1_; clear n0_ n1_; (try (obtain ⟨hx26_0, hf26_0⟩ := Kd.R_celln 0 HO_3.out (x24_3 : Int) (of_eq_true p26) (of_eq_true q26))); (try (have HP29 := Kd.R_putg HO_3.out (x24_3 : Int) ji15)))); refine store_event (t := 3) (p := 58) (v := ?vo_w30) (w1 := (wr.setCell ⟨go26, (x24_3 : Int).toNat, none⟩ (.int .i64 ji15))) ?hg ?ho ?hn ?hr ?_; (case ho => rfl); (case hg => rfl); (case hn => rfl); (case hr => first | (go_simp; done) | (go_simp; rfl) | (go_simp; congr 2; rw [← hji15]; unfold mn; omega)); intro w30 hw; have hg : wr.grownBy w30 (some go26) := (by rw [hw]; exact HP29.2); have hp_ : Kd.R (Kd.int .i64) 3 w30 w.heap.size (fun _ => True) (.slice (some ⟨go26, 0, none⟩) x3_3.length co28) y117 := (by rw [hw, Ny117.out]; exact HP29.1); clear HP29; have n0_ := A0_ (hp_); have n1_ := A0_ ((by rw [hw]; exact bS (HB.out) GB26.out : Below w.heap.size w w30)); clear HO_3 HB; have HO_3 := n0_; have HB := n1_; clear n0_ n1_ hg hw hp_; have p27 : 0 ≤ ((rd (rd_L1 l0 x18_2) x24_3) : Int) := zd; have q27 : ((rd (rd_L1 l0 x18_2) x24_3) : Int) < ((x3_3.length : Int) : Int) := zd; obtain ⟨hx27_0, hf27_0⟩ := Kd.R_celln 0 HO_3.out ((rd (rd_L1 l0 x18_2) x24_3) : Int) p27 q27; replace p27 := eq_true p27; replace q27 := eq_true q27; obtain ⟨hy31_, hz31_⟩ := Kd.R_celln 0 HO_3.out ((rd (rd_L1 l0 x18_2) x24_3) : Int) (zd) (zd); have HP31 := Kd.R_putg HO_3.out ((rd (rd_L1 l0 x18_2) x24_3) : Int) ji15) | ((with_reducible refine gS (t := 3) (p := 59) rfl ?_); (try (rw [drewN_self w30]; generalize hq_ : World.drewN w30 _ = w30; have n0_ := A0_ (Kd.R_at hq_ HO_3.out); have n1_ := A0_ (below_at hq_ HB.out); clear hq_ HO_3 HB; have HO_3 := n0_; have HB := n1_; clear n0_ n1_; (try (obtain ⟨hx26_0, hf26_0⟩ := Kd.R_celln 0 HO_3.out (x24_3 : Int) (of_eq_true p26) (of_eq_true q26))); (try (obtain ⟨hy31_, hz31_⟩ := Kd.R_celln 0 HO_3.out ((rd (rd_L1 l0 x18_2) x24_3) : Int) (zd) (zd))); (try (have HP31 := Kd.R_putg HO_3.out ((rd (rd_L1 l0 x18_2) x24_3) : Int) ji15)))); refine store_event (t := 3) (p := 59) (v := ?vo_w32) (w1 := (w30.setCell ⟨go26, ((rd (rd_L1 l0 x18_2) x24_3) : Int).toNat, none⟩ (.int .i64 ji15))) ?hg ?ho ?hn ?hr ?_; (case ho => rfl); (case hg => rfl); (case hn => rfl); (case hr => first | (go_simp; done) | (go_simp; rfl) | (go_simp; congr 2; rw [← hji15]; unfold mn; omega)); intro w32 hw; have hg : w30.grownBy w32 (some go26) := (by rw [hw]; exact HP31.2); have hp_ : Kd.R (Kd.int .i64) 3 w32 w.heap.size (fun _ => True) (.slice (some ⟨go26, 0, none⟩) x3_3.length co28) y118 := (by rw [hw, Ny118.out]; exact HP31.1); clear HP31; have n0_ := A0_ (hp_); have n1_ := A0_ ((by rw [hw]; exact bS (HB.out) GB26.out : Below w.heap.size w w32)); clear HO_3 HB; have HO_3 := n0_; have HB := n1_; clear n0_ n1_ hg hw hp_)))
                  go_roundg k3
                  case measure => have := HK1.out; have := HK2.out; have := HK3.out; omega
                  case rel => exact ⟨(y118), (true), (wrap64 (x24_3 + 1)), zt, zt, H', ⟨by have := HK1.out; have := HK2.out; have := HK3.out; omega⟩, ⟨zR_ HO_3⟩, ⟨zB_ HB⟩⟩
                 rw [if_neg c14] at H
                 exact absurd H (by simp)
                rw [if_neg c13] at H
                exact absurd H (by simp)
               rw [if_neg c12] at H
               exact absurd H (by simp)
              rw [if_neg c11] at H
              exact absurd H (by simp)
             rw [if_neg c10] at H
             exact absurd H (by simp)
            rw [if_neg c9] at H; have c9b0 := dF c9; clear c9; have H' := A0_ H; clear H
            go_wp2
            repeat (go_quiet (fail); try go_wp2)
            go_roundg k3
            case measure => have := HK1.out; have := HK2.out; have := HK3.out; omega
            case rel => exact ⟨(x3_3), (x4_3), (wrap64 (x18_2 + 1)), zt, zt, H', ⟨by have := HK1.out; have := HK2.out; have := HK3.out; omega⟩, ⟨zR_ HO_3⟩, ⟨zB_ HB⟩⟩
         rw [if_neg c8] at H
         exact absurd H (by simp)
        rw [if_neg c7] at H
        exact absurd H (by simp)
       rw [if_neg c6] at H; have c6b0 := dF c6; clear c6; have H' := A0_ H; clear H
       go_wp2
       repeat (go_quiet (fail); try go_wp2)
       go_roundg k2
       case measure => have := HK1.out; have := HK2.out; omega
       case rel => exact ⟨(x3_2), (x4_2), zt, H', ⟨by have := HK1.out; have := HK2.out; omega⟩, ⟨zR_ HO_3⟩, ⟨zB_ HB⟩⟩
    replace c5 := Bool.eq_false_iff.mpr c5; subst c5
    rw [if_neg (show ¬ (false = true) by decide)] at H
    obtain rfl := sI H
    go_wp2
    repeat (go_quiet (fail); try go_wp2)
    go_ret
    exact ⟨_, by first | rfl | (simp [*] <;> rfl), zR_ HO_3, zB_ HB⟩
 rw [if_neg c2] at H
 exact absurd H (by simp)

/-! ### impl_partnersOf: function 87 -/
mutual
def impl_partnersOf.l0 : Nat → ByteArray → List Int → Int → Int → Option (List Int)
  | 0, _, _, _, _ => none
  | k + 1, x0, x3, x10, x11 => if x11 < x10 then (impl_partnersOf.l1 k x0 x3 x11 x10 x11 (x0.size : Int) 0) else (some x3)
def impl_partnersOf.l1 : Nat → ByteArray → List Int → Int → Int → Int → Int → Int → Option (List Int)
  | 0, _, _, _, _, _, _, _ => none
  | k + 1, x0, x3, x4, x10, x11, x15, x16 => if x16 < x15 then (if x4 = x16 then (impl_partnersOf.l1 k x0 x3 x4 x10 x11 x15 (wrap64 (x16 + 1))) else (if 0 ≤ x4 then (if x4 < (x0.size : Int) then (if 0 ≤ x16 then (if x16 < (x0.size : Int) then (if (Go.bits .or .u8 (bt x0 x4) 32) = (Go.bits .or .u8 (bt x0 x16) 32) then (if x4 < (x3.length : Int) then (impl_partnersOf.l1 k x0 (x3.set (x4 : Int).toNat x16) x4 x10 x11 x15 (wrap64 (x16 + 1))) else (none)) else (impl_partnersOf.l1 k x0 x3 x4 x10 x11 x15 (wrap64 (x16 + 1)))) else (none)) else (none)) else (none)) else (none))) else (impl_partnersOf.l0 k x0 x3 x10 (wrap64 (x11 + 1)))
end
def impl_partnersOf.f (k : Nat) (a0 : ByteArray) : Option (List Int) := if 0 ≤ (a0.size : Int) then (if ((a0.size : Int) : Int).toNat ≤ 35184372088832 then (impl_partnersOf.l0 k a0 (List.replicate ((a0.size : Int) : Int).toNat 0) (a0.size : Int) 0) else (none)) else (none)
set_option maxHeartbeats 8000000 in
set_option maxRecDepth 100000 in
theorem impl_partnersOf.calls (k : Nat) (a0 : ByteArray) (r : List Int) (w : World) (h : impl_partnersOf.f k a0 = some r) :
    Calls Tryz.prog 87 #[.string a0] w fun e w' => ∃ v0_ : Value, e = .returned (v0_) ∧ Kd.R (Kd.int .i64) 3 w' w.heap.size (fun _ => True) v0_ r ∧ Below w.heap.size w w' := by
 have HB := A0_ (Below.refl w.heap.size w)
 have H : (if 0 ≤ (a0.size : Int) then (if ((a0.size : Int) : Int).toNat ≤ 35184372088832 then (impl_partnersOf.l0 k a0 (List.replicate ((a0.size : Int) : Int).toNat 0) (a0.size : Int) 0) else (none)) else (none)) = some r := h
 clear h
 by_cases c2 : 0 ≤ (a0.size : Int)
 ·rw [if_pos c2] at H
  have c2b0 := eq_true c2; have c2b1 := dT c2; clear c2
  by_cases c3 : ((a0.size : Int) : Int).toNat ≤ 35184372088832
  ·rw [if_pos c3] at H
   have c3b0 := eq_true c3; have c3b1 := dT c3; clear c3
   obtain ⟨y119, hy119⟩ : ∃ y_ : List Int, y_ = (List.replicate ((a0.size : Int) : Int).toNat 0) := ⟨_, rfl⟩
   replace H : (impl_partnersOf.l0 k a0 y119 (a0.size : Int) 0) = some r := zH hy119 H
   have Ny119 := A0_ hy119; clear hy119; have H' := A0_ H; clear H
   go_enter Tryz.func87, Tryz.ntmps87
   go_wp2_with (first | ((with_reducible refine gD (N := 8) rfl ?_); refine Kd.R_make (Kd.int .i64) _ 3 rfl (N := 8) rfl 23 _ _ rfl (a0.size : Int) rfl rfl Tryz.underlying23 (.int .i64 0) 8 info3 rfl (by decide) (by omega) 0 (ok := fun _ => True) (okp := fun _ => True) rfl (fun _ hk => hk) trivial (zd) (Nat.le_trans (Nat.mul_le_mul_right _ (zd : (a0.size : Int).toNat ≤ 35184372088832)) (by omega)) (Below.refl _ _) (Nat.le_refl _) ?_; intro v120 w4 ho5 hb hg_ hnew_; clear hg_ hnew_; (first | rw [← Ny119.out] at ho5 | (simp only [Int.reduceToNat] at ho5; rw [← Ny119.out] at ho5)); have HO121 := A0_ (rL ho5 (bZ (zB_ HB))); replace HB := zB HB hb; clear hb ho5))
   repeat (go_quiet (first | ((with_reducible refine gD (N := 8) rfl ?_); refine Kd.R_make (Kd.int .i64) _ 3 rfl (N := 8) rfl 23 _ _ rfl (a0.size : Int) rfl rfl Tryz.underlying23 (.int .i64 0) 8 info3 rfl (by decide) (by omega) 0 (ok := fun _ => True) (okp := fun _ => True) rfl (fun _ hk => hk) trivial (zd) (Nat.le_trans (Nat.mul_le_mul_right _ (zd : (a0.size : Int).toNat ≤ 35184372088832)) (by omega)) (Below.refl _ _) (Nat.le_refl _) ?_; intro v120 w4 ho5 hb hg_ hnew_; clear hg_ hnew_; (first | rw [← Ny119.out] at ho5 | (simp only [Int.reduceToNat] at ho5; rw [← Ny119.out] at ho5)); have HO121 := A0_ (rL ho5 (bZ (zB_ HB))); replace HB := zB HB hb; clear hb ho5)); try go_wp2_with (first | ((with_reducible refine gD (N := 8) rfl ?_); refine Kd.R_make (Kd.int .i64) _ 3 rfl (N := 8) rfl 23 _ _ rfl (a0.size : Int) rfl rfl Tryz.underlying23 (.int .i64 0) 8 info3 rfl (by decide) (by omega) 0 (ok := fun _ => True) (okp := fun _ => True) rfl (fun _ hk => hk) trivial (zd) (Nat.le_trans (Nat.mul_le_mul_right _ (zd : (a0.size : Int).toNat ≤ 35184372088832)) (by omega)) (Below.refl _ _) (Nat.le_refl _) ?_; intro v120 w4 ho5 hb hg_ hnew_; clear hg_ hnew_; (first | rw [← Ny119.out] at ho5 | (simp only [Int.reduceToNat] at ho5; rw [← Ny119.out] at ho5)); have n0_ := A0_ (rL ho5 (bZ (zB_ HB))); have n1_ := zB HB hb; clear HB; have HO121 := n0_; have HB := n1_; clear n0_ n1_ hb ho5)))
   go_loopg [11] k (fun kq v11 w' => ∃ (x3_1 : List Int) (x11_1 : Int), v11 = .int .i64 x11_1 ∧ Aside0 (impl_partnersOf.l0 kq a0 x3_1 (a0.size : Int) x11_1 = some r) ∧ Aside0 (kq ≤ k) ∧ Aside0 (Kd.R (Kd.int .i64) 3 w' w.heap.size (fun _ => True) v120 x3_1) ∧ Aside0 (Below w.heap.size w w'))
   case atStart => exact ⟨(y119), (0), zt, H', ⟨Nat.le_refl _⟩, ⟨zR_ HO121⟩, ⟨zB_ HB⟩⟩
   case round =>
    clear H'; (try clear c2); (try clear c2b0); (try clear c2b1); (try clear p2); (try clear c3); (try clear c3b0); (try clear c3b1); obtain ⟨x3_1, x11_1, rfl, HA, HK1, HO_3, HB⟩ := hrel
    cases gk with
    | zero => exact absurd HA.out (by simp [impl_partnersOf.l0])
    | succ k1 =>
     have H := HA.out; clear HA; simp only [impl_partnersOf.l0] at H
     by_cases c6 : x11_1 < (a0.size : Int)
     ·rw [if_pos c6] at H
      have c6b0 := dT c6; clear c6; have H' := A0_ H; clear H
      go_wp2
      repeat (go_quiet (fail); try go_wp2)
      go_loopg [16] k1 (fun kq v16 w' => ∃ (x3_2 : List Int) (x16_2 : Int), v16 = .int .i64 x16_2 ∧ Aside0 (impl_partnersOf.l1 kq a0 x3_2 x11_1 (a0.size : Int) x11_1 (a0.size : Int) x16_2 = some r) ∧ Aside0 (kq ≤ k1) ∧ Aside0 (Kd.R (Kd.int .i64) 3 w' w.heap.size (fun _ => True) v120 x3_2) ∧ Aside0 (Below w.heap.size w w'))
      case atStart => exact ⟨(x3_1), (0), zt, H', ⟨Nat.le_refl _⟩, ⟨zR_ HO_3⟩, ⟨zB_ HB⟩⟩
      case round =>
       clear H'; (try clear c2); (try clear c2b0); (try clear c2b1); (try clear p2); (try clear c3); (try clear c3b0); (try clear c3b1); (try clear c6); (try clear c6b0); (try clear p2); obtain ⟨x3_2, x16_2, rfl, HA, HK2, HO_3, HB⟩ := hrel
       cases gk with
       | zero => exact absurd HA.out (by simp [impl_partnersOf.l1])
       | succ k2 =>
        have H := HA.out; clear HA; simp only [impl_partnersOf.l1] at H
        by_cases c7 : x16_2 < (a0.size : Int)
        ·rw [if_pos c7] at H
         have c7b0 := dT c7; clear c7
         by_cases c8 : x11_1 = x16_2
         ·rw [if_pos c8] at H
          have c8b0 : (x11_1 == x16_2) = true := beq_iff_eq.mpr c8
          have c8b1 : (x11_1 != x16_2) = false := bne_eq_false_iff_eq.mpr c8
          clear c8; have H' := A0_ H; clear H
          go_wp2
          repeat (go_quiet (fail); try go_wp2)
          go_roundg k2
          case measure => have := HK1.out; have := HK2.out; omega
          case rel => exact ⟨(x3_2), (wrap64 (x16_2 + 1)), zt, H', ⟨by have := HK1.out; have := HK2.out; omega⟩, ⟨zR_ HO_3⟩, ⟨zB_ HB⟩⟩
         rw [if_neg c8] at H
         have c8b0 : (x11_1 == x16_2) = false := beq_eq_false_iff_ne.mpr c8
         have c8b1 : (x11_1 != x16_2) = true := bne_iff_ne.mpr c8
         by_cases c9 : 0 ≤ x11_1
         ·rw [if_pos c9] at H
          have c9b0 := dT c9; clear c9
          by_cases c10 : x11_1 < (a0.size : Int)
          ·rw [if_pos c10] at H
           have c10b0 := dT c10; clear c10
           by_cases c12 : 0 ≤ x16_2
           ·rw [if_pos c12] at H
            have c12b0 := dT c12; clear c12
            by_cases c13 : x16_2 < (a0.size : Int)
            ·rw [if_pos c13] at H
             have c13b0 := dT c13; clear c13
             by_cases c15 : (Go.bits .or .u8 (bt a0 x11_1) 32) = (Go.bits .or .u8 (bt a0 x16_2) 32)
             ·rw [if_pos c15] at H
              have c15b0 : ((Go.bits .or .u8 (bt a0 x11_1) 32) == (Go.bits .or .u8 (bt a0 x16_2) 32)) = true := beq_iff_eq.mpr c15
              have c15b1 : ((Go.bits .or .u8 (bt a0 x11_1) 32) != (Go.bits .or .u8 (bt a0 x16_2) 32)) = false := bne_eq_false_iff_eq.mpr c15
              clear c15
              by_cases c16 : x11_1 < (x3_2.length : Int)
              ·rw [if_pos c16] at H
               have c16b0 := dT c16; clear c16
               obtain ⟨y122, hy122⟩ : ∃ y_ : List Int, y_ = (x3_2.set (x11_1 : Int).toNat x16_2) := ⟨_, rfl⟩
               replace H : (impl_partnersOf.l1 k2 a0 y122 x11_1 (a0.size : Int) x11_1 (a0.size : Int) (wrap64 (x16_2 + 1))) = some r := zH hy122 H
               have Ny122 := A0_ hy122; clear hy122; have H' := A0_ H; clear H
               have p11 : 0 ≤ (x11_1 : Int) := zd
               have q11 : x11_1 < (a0.size : Int) := zd
               have hx11 := bt_at a0 x11_1; replace p11 := eq_true p11; replace q11 := eq_true q11
               have p14 : 0 ≤ (x16_2 : Int) := zd
               have q14 : x16_2 < (a0.size : Int) := zd
               have hx14 := bt_at a0 x16_2; replace p14 := eq_true p14; replace q14 := eq_true q14
               have p17 : 0 ≤ (x11_1 : Int) := zd
               have q17 : (x11_1 : Int) < ((x3_2.length : Int) : Int) := zd
               obtain ⟨go17, co17, eo17, gb17, gl17, cl17, HG17⟩ := Kd.R_form HO_3.out (by omega)
               (first | cases eo17 | (injection eo17 with ea_ en_ ec_; (first | subst ea_ | (injection ea_ with ea_; subst ea_)); subst ec_; clear en_))
               have GB17 := A0_ gb17; have GG17 := A0_ HG17; clear gb17 gl17 HG17
               obtain ⟨hx17_0, hf17_0⟩ := Kd.R_celln 0 HO_3.out (x11_1 : Int) p17 q17
               replace p17 := eq_true p17; replace q17 := eq_true q17
               have HP18 := Kd.R_putg HO_3.out (x11_1 : Int) x16_2
               go_wp2_with (first | ((with_reducible refine gS (t := 3) (p := 36) rfl ?_); (try (rw [drewN_self wr]; generalize hq_ : World.drewN wr _ = wr; have n0_ := A0_ (Kd.R_at hq_ HO_3.out); have n1_ := A0_ (below_at hq_ HB.out); clear hq_ HO_3 HB; have HO_3 := n0_; have HB := n1_; clear n0_ n1_; (try (obtain ⟨hx17_0, hf17_0⟩ := Kd.R_celln 0 HO_3.out (x11_1 : Int) (of_eq_true p17) (of_eq_true q17))); (try (have HP18 := Kd.R_putg HO_3.out (x11_1 : Int) x16_2)))); refine store_event (t := 3) (p := 36) (v := ?vo_w19) (w1 := (wr.setCell ⟨go17, (x11_1 : Int).toNat, none⟩ (.int .i64 x16_2))) ?hg ?ho ?hn ?hr ?_; (case ho => rfl); (case hg => rfl); (case hn => rfl); (case hr => first | (go_simp; done) | (go_simp; rfl)); intro w19 hw; have hg : wr.grownBy w19 (some go17) := (by rw [hw]; exact HP18.2); have hp_ : Kd.R (Kd.int .i64) 3 w19 w.heap.size (fun _ => True) (.slice (some ⟨go17, 0, none⟩) x3_2.length co17) y122 := (by rw [hw, Ny122.out]; exact HP18.1); clear HP18; replace HO_3 := A0_ (hp_); replace HB := A0_ ((by rw [hw]; exact bS (HB.out) GB17.out : Below w.heap.size w w19)); clear hg hw hp_))
               repeat (go_quiet (first | ((with_reducible refine gS (t := 3) (p := 36) rfl ?_); (try (rw [drewN_self wr]; generalize hq_ : World.drewN wr _ = wr; have n0_ := A0_ (Kd.R_at hq_ HO_3.out); have n1_ := A0_ (below_at hq_ HB.out); clear hq_ HO_3 HB; have HO_3 := n0_; have HB := n1_; clear n0_ n1_; (try (obtain ⟨hx17_0, hf17_0⟩ := Kd.R_celln 0 HO_3.out (x11_1 : Int) (of_eq_true p17) (of_eq_true q17))); (try (have HP18 := Kd.R_putg HO_3.out (x11_1 : Int) x16_2)))); refine store_event (t := 3) (p := 36) (v := ?vo_w19) (w1 := (wr.setCell ⟨go17, (x11_1 : Int).toNat, none⟩ (.int .i64 x16_2))) ?hg ?ho ?hn ?hr ?_; (case ho => rfl); (case hg => rfl); (case hn => rfl); (case hr => first | (go_simp; done) | (go_simp; rfl)); intro w19 hw; have hg : wr.grownBy w19 (some go17) := (by rw [hw]; exact HP18.2); have hp_ : Kd.R (Kd.int .i64) 3 w19 w.heap.size (fun _ => True) (.slice (some ⟨go17, 0, none⟩) x3_2.length co17) y122 := (by rw [hw, Ny122.out]; exact HP18.1); clear HP18; replace HO_3 := A0_ (hp_); replace HB := A0_ ((by rw [hw]; exact bS (HB.out) GB17.out : Below w.heap.size w w19)); clear hg hw hp_)); try go_wp2_with (first | ((with_reducible refine gS (t := 3) (p := 36) rfl ?_); (try (rw [drewN_self wr]; generalize hq_ : World.drewN wr _ = wr; have n0_ := A0_ (Kd.R_at hq_ HO_3.out); have n1_ := A0_ (below_at hq_ HB.out); clear hq_ HO_3 HB; have HO_3 := n0_; have HB := n1_; clear n0_ n1_; (try (obtain ⟨hx17_0, hf17_0⟩ := Kd.R_celln 0 HO_3.out (x11_1 : Int) (of_eq_true p17) (of_eq_true q17))); (try (have HP18 := Kd.R_putg HO_3.out (x11_1 : Int) x16_2)))); refine store_event (t := 3) (p := 36) (v := ?vo_w19) (w1 := (wr.setCell ⟨go17, (x11_1 : Int).toNat, none⟩ (.int .i64 x16_2))) ?hg ?ho ?hn ?hr ?_; (case ho => rfl); (case hg => rfl); (case hn => rfl); (case hr => first | (go_simp; done) | (go_simp; rfl)); intro w19 hw; have hg : wr.grownBy w19 (some go17) := (by rw [hw]; exact HP18.2); have hp_ : Kd.R (Kd.int .i64) 3 w19 w.heap.size (fun _ => True) (.slice (some ⟨go17, 0, none⟩) x3_2.length co17) y122 := (by rw [hw, Ny122.out]; exact HP18.1); clear HP18; have n0_ := A0_ (hp_); have n1_ := A0_ ((by rw [hw]; exact bS (HB.out) GB17.out : Below w.heap.size w w19)); clear HO_3 HB; have HO_3 := n0_; have HB := n1_; clear n0_ n1_ hg hw hp_)))
               go_roundg k2
               case measure => have := HK1.out; have := HK2.out; omega
               case rel => exact ⟨(y122), (wrap64 (x16_2 + 1)), zt, H', ⟨by have := HK1.out; have := HK2.out; omega⟩, ⟨zR_ HO_3⟩, ⟨zB_ HB⟩⟩
              rw [if_neg c16] at H
              exact absurd H (by simp)
             rw [if_neg c15] at H
             have c15b0 : ((Go.bits .or .u8 (bt a0 x11_1) 32) == (Go.bits .or .u8 (bt a0 x16_2) 32)) = false := beq_eq_false_iff_ne.mpr c15
             have c15b1 : ((Go.bits .or .u8 (bt a0 x11_1) 32) != (Go.bits .or .u8 (bt a0 x16_2) 32)) = true := bne_iff_ne.mpr c15
             have H' := A0_ H; clear H
             have p11 : 0 ≤ (x11_1 : Int) := zd
             have q11 : x11_1 < (a0.size : Int) := zd
             have hx11 := bt_at a0 x11_1; replace p11 := eq_true p11; replace q11 := eq_true q11
             have p14 : 0 ≤ (x16_2 : Int) := zd
             have q14 : x16_2 < (a0.size : Int) := zd
             have hx14 := bt_at a0 x16_2; replace p14 := eq_true p14; replace q14 := eq_true q14
             go_wp2
             repeat (go_quiet (fail); try go_wp2)
             go_roundg k2
             case measure => have := HK1.out; have := HK2.out; omega
             case rel => exact ⟨(x3_2), (wrap64 (x16_2 + 1)), zt, H', ⟨by have := HK1.out; have := HK2.out; omega⟩, ⟨zR_ HO_3⟩, ⟨zB_ HB⟩⟩
            rw [if_neg c13] at H
            exact absurd H (by simp)
           rw [if_neg c12] at H
           exact absurd H (by simp)
          rw [if_neg c10] at H
          exact absurd H (by simp)
         rw [if_neg c9] at H
         exact absurd H (by simp)
        rw [if_neg c7] at H; have c7b0 := dF c7; clear c7; have H' := A0_ H; clear H
        go_wp2
        repeat (go_quiet (fail); try go_wp2)
        go_roundg k2
        case measure => have := HK1.out; have := HK2.out; omega
        case rel => exact ⟨(x3_2), (wrap64 (x11_1 + 1)), zt, H', ⟨by have := HK1.out; have := HK2.out; omega⟩, ⟨zR_ HO_3⟩, ⟨zB_ HB⟩⟩
     rw [if_neg c6] at H; have c6b0 := dF c6; clear c6; obtain rfl := sI H
     go_wp2
     repeat (go_quiet (fail); try go_wp2)
     go_ret
     exact ⟨_, by first | rfl | (simp [*] <;> rfl), zR_ HO_3, zB_ HB⟩
  rw [if_neg c3] at H
  exact absurd H (by simp)
 rw [if_neg c2] at H
 exact absurd H (by simp)

end Go.Proofs.YtikkokflcgcnbaaGreatDoor.PFnExecuteClass
