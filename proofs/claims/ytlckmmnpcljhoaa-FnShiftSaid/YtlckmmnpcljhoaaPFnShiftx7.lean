-- Made by a program of this session (wip/tools) out of the loaded program; not trusted: Lean checks it.
import Derived.Test.YtlckmmnpcljhoaaPFnShiftx0
import Derived.Test.YtlckmmnpcljhoaaPFnShiftx5
import Derived.Test.YtlckmmnpcljhoaaPFnShiftx6
-- packed
namespace Go.Proofs.Ytlckmmnpcljhoaa.PFnShift
open Go.RowKit Go.Proofs.YtlckmmnpcljhoaaW.PrintWords Go.Proofs.YtlckmmnpcljhoaaW.PrintLast Go.Proofs.YtlckmmnpcljhoaaW.PrintMore
attribute [local go_sem] max2_int min2_int max_two min_two max_three min_three max_four min_four   -- for this text's walks alone
set_option linter.unusedVariables false
set_option linter.unusedSimpArgs false

/-! ### impl_VoltageValid: function 15 -/
mutual
def impl_VoltageValid.j0 : Nat → Int → List (List Int) → Bool → Option (Bool)
  | 0, _, _, _ => none
  | k + 1, x1, x2, x36 => if x36 = true then (some false) else (impl_VoltageValid.l0 k x1 x2 (x2.length : Int) 0)
def impl_VoltageValid.l0 : Nat → Int → List (List Int) → Int → Int → Option (Bool)
  | 0, _, _, _, _ => none
  | k + 1, x1, x37, x38, x39 => if x39 < x38 then (if 0 ≤ x39 then (if x39 < (x37.length : Int) then ((impl_PermValid.f (rd_L2 x37 x39)).bind fun t296 => (if t296 = true then (if ((rd_L2 x37 x39).length : Int) = x1 then (impl_VoltageValid.l0 k x1 x37 x38 (wrap64 (x39 + 1))) else (some false)) else (some false))) else (none)) else (none)) else (some true)
end
def impl_VoltageValid.f (k : Nat) (l0_0 : List Int) (l0_1 : List Int) (a1 : Int) (l2 : List (List Int)) : Option (Bool) := (impl_MapValid.f k l0_0 l0_1).bind fun t294 => (if t294 = true then (if a1 < 1 then (impl_VoltageValid.j0 k a1 l2 true) else (if a1 > 6 then (impl_VoltageValid.j0 k a1 l2 true) else (if (wrap64 ((l0_0.length : Int) * a1)) > 12 then (impl_VoltageValid.j0 k a1 l2 true) else (impl_VoltageValid.j0 k a1 l2 ((l2.length : Int) != (wrap64 ((l0_1.length : Int) / 2))))))) else (impl_VoltageValid.j0 k a1 l2 true))
set_option maxHeartbeats 8000000 in
set_option maxRecDepth 100000 in
theorem impl_VoltageValid.calls (k : Nat) (A0_0 : Option Addr) (c0_0 : Nat) (l0_0 : List Int) (A0_1 : Option Addr) (c0_1 : Nat) (l0_1 : List Int) (a1 : Int) (A2 : Option Addr) (c2 : Nat) (l2 : List (List Int)) (r : Bool) (w : World) (hr0_0 : Kd.C (Kd.int .i64) w A0_0 l0_0.length l0_0) (hc0_0 : l0_0.length ≤ c0_0) (hr0_1 : Kd.C (Kd.int .i64) w A0_1 l0_1.length l0_1) (hc0_1 : l0_1.length ≤ c0_1) (hr2 : Kd.C (Kd.slice 3 (Kd.int .i64)) w A2 l2.length l2) (hc2 : l2.length ≤ c2) (h : impl_VoltageValid.f k l0_0 l0_1 a1 l2 = some r) :
    Calls Try.prog 15 #[.agg #[.slice A0_0 l0_0.length c0_0, .slice A0_1 l0_1.length c0_1], .int .i64 a1, .slice A2 l2.length c2] w fun e w' => e = .returned (.bool r) ∧ Below w.heap.size w w' := by
 have hu25 := Try.underlying25; have HR0_0 := A0_ hr0_0; have HC0_0 := A0_ hc0_0; clear hr0_0 hc0_0; have HR0_1 := A0_ hr0_1; have HC0_1 := A0_ hc0_1; clear hr0_1 hc0_1; have HR2 := A0_ hr2; have HC2 := A0_ hc2; clear hr2 hc2
 have HB := A0_ (Below.refl w.heap.size w)
 have H : ((impl_MapValid.f k l0_0 l0_1).bind fun t294 => (if t294 = true then (if a1 < 1 then (impl_VoltageValid.j0 k a1 l2 true) else (if a1 > 6 then (impl_VoltageValid.j0 k a1 l2 true) else (if (wrap64 ((l0_0.length : Int) * a1)) > 12 then (impl_VoltageValid.j0 k a1 l2 true) else (impl_VoltageValid.j0 k a1 l2 ((l2.length : Int) != (wrap64 ((l0_1.length : Int) / 2))))))) else (impl_VoltageValid.j0 k a1 l2 true))) = some r := h
 clear h; have HC4 := A0_ H; clear H
 go_enter Try.func15, Try.ntmps15
 go_upto_region 1 with (first | ((with_reducible refine gD (N := 3) rfl ?_); refine box_event ?hg (N := 3) ?hd (cs := #[.slice A0_0 l0_0.length c0_0, .slice A0_1 l0_1.length c0_1]) (t := 25) ?hr ?_; (case hd => rfl); (case hg => rfl); (case hr => first | (go_simp; done) | (go_simp; rfl)); intro gb293 hg w5 hbox hb; have BK293 := A0_ (hbox); have GW293 := zG hg HB; have GE293 := zG hg HB; replace HB := zB HB hb; clear hb hbox hg))
 (try simp only [Act.put, List.setIfInBounds_toArray, List.set_cons_zero, List.set_cons_succ])
 go_cut [36] (fun v36 wc => ∃ (kq : Nat) (x36_3 : Bool), v36 = .bool x36_3 ∧ Aside0 (impl_VoltageValid.j0 kq a1 l2 x36_3 = some r) ∧ Aside0 (kq ≤ k) ∧ Aside0 (wc.heap[gb293]? = some (.cells #[(.slice A0_0 l0_0.length c0_0), (.slice A0_1 l0_1.length c0_1)] 25 (0, 0))) ∧ Aside0 (Below w.heap.size w wc))
 case first =>
  have H := HC4.out; clear HC4; obtain ⟨t294, A6, H⟩ := zbind H
  by_cases c7 : t294 = true
  ·subst c7
   rw [if_pos rfl] at H
   by_cases c8 : a1 < 1
   ·rw [if_pos c8] at H
    have c8b0 : decide (a1 < 1) = true := dT c8
    clear c8
    (first | rw [c8b0] | (simp only [i64_w, i32_w]; rw [c8b0]) | skip)
    have H' := A0_ H; clear H
    have hcz9_0 : w5.cell? ⟨gb293, 0, none⟩ = some (.slice A0_0 l0_0.length c0_0) := (kC BK293.out 0).trans rfl
    have hcz9_1 : w5.cell? ⟨gb293, 1, none⟩ = some (.slice A0_1 l0_1.length c0_1) := (kC BK293.out 1).trans rfl
    have hfz9_0 := kF BK293.out 0; have hfz9_1 := kF BK293.out 1
    go_wp2_with (first | ((with_reducible refine gC (f := 27) rfl ?_); refine goesL_ (some 10) rfl rfl Try.func27 (by kernel_rfl) rfl #[.agg #[.slice A0_0 l0_0.length c0_0, .slice A0_1 l0_1.length c0_1]] rfl (by (try simp only [List.map_toArray, List.map_cons, List.map_nil]); first | done | rfl) ?_; (with_reducible refine (impl_MapValid.calls k (fun k_ => k_ < w.heap.size) _ _ l0_0 (fun k_ => k_ < w.heap.size) _ _ l0_1 true _ ?side1 ?side2 A6.out).mono ?_); (case side1 => exact Kd.V_mk HC0_0.out (Kd.F_below (Kd.C_F (Kd.heap_int .i64) HR0_0.out) (zB_ HB))); (case side2 => exact Kd.V_mk HC0_1.out (Kd.F_below (Kd.C_F (Kd.heap_int .i64) HR0_1.out) (zB_ HB))); rintro e w10 ⟨rfl, hb⟩; refine ⟨_, rfl, ?_⟩; replace BK293 := zK BK293 hb; replace HB := zB HB hb; (try clear hb)))
    go_meet
    case rel => exact ⟨_, (true), zt, H', zo, ⟨zK_ BK293⟩, ⟨zB_ HB⟩⟩
   rw [if_neg c8] at H
   have c8b0 : decide (a1 < 1) = false := dF c8
   clear c8
   (first | rw [c8b0] | (simp only [i64_w, i32_w]; rw [c8b0]) | skip)
   by_cases c11 : a1 > 6
   ·rw [if_pos c11] at H
    have c11b0 : decide (6 < a1) = true := dT c11
    clear c11; have H' := A0_ H; clear H
    have hcz12_0 : w5.cell? ⟨gb293, 0, none⟩ = some (.slice A0_0 l0_0.length c0_0) := (kC BK293.out 0).trans rfl
    have hcz12_1 : w5.cell? ⟨gb293, 1, none⟩ = some (.slice A0_1 l0_1.length c0_1) := (kC BK293.out 1).trans rfl
    have hfz12_0 := kF BK293.out 0; have hfz12_1 := kF BK293.out 1
    go_wp2_with (first | ((with_reducible refine gC (f := 27) rfl ?_); refine goesL_ (some 10) rfl rfl Try.func27 (by kernel_rfl) rfl #[.agg #[.slice A0_0 l0_0.length c0_0, .slice A0_1 l0_1.length c0_1]] rfl (by (try simp only [List.map_toArray, List.map_cons, List.map_nil]); first | done | rfl) ?_; (with_reducible refine (impl_MapValid.calls k (fun k_ => k_ < w.heap.size) _ _ l0_0 (fun k_ => k_ < w.heap.size) _ _ l0_1 true _ ?side1 ?side2 A6.out).mono ?_); (case side1 => exact Kd.V_mk HC0_0.out (Kd.F_below (Kd.C_F (Kd.heap_int .i64) HR0_0.out) (zB_ HB))); (case side2 => exact Kd.V_mk HC0_1.out (Kd.F_below (Kd.C_F (Kd.heap_int .i64) HR0_1.out) (zB_ HB))); rintro e w13 ⟨rfl, hb⟩; refine ⟨_, rfl, ?_⟩; replace BK293 := zK BK293 hb; replace HB := zB HB hb; (try clear hb)))
    go_meet
    case rel => exact ⟨_, (true), zt, H', zo, ⟨zK_ BK293⟩, ⟨zB_ HB⟩⟩
   rw [if_neg c11] at H
   have c11b0 : decide (6 < a1) = false := dF c11
   clear c11
   by_cases c14 : (wrap64 ((l0_0.length : Int) * a1)) > 12
   ·rw [if_pos c14] at H
    have c14b0 : decide (12 < (wrap64 ((l0_0.length : Int) * a1))) = true := dT c14
    clear c14; have H' := A0_ H; clear H
    have hcz15_0 : w5.cell? ⟨gb293, 0, none⟩ = some (.slice A0_0 l0_0.length c0_0) := (kC BK293.out 0).trans rfl
    have hcz15_1 : w5.cell? ⟨gb293, 1, none⟩ = some (.slice A0_1 l0_1.length c0_1) := (kC BK293.out 1).trans rfl
    have hfz15_0 := kF BK293.out 0; have hfz15_1 := kF BK293.out 1
    go_wp2_with (first | ((with_reducible refine gC (f := 27) rfl ?_); refine goesL_ (some 10) rfl rfl Try.func27 (by kernel_rfl) rfl #[.agg #[.slice A0_0 l0_0.length c0_0, .slice A0_1 l0_1.length c0_1]] rfl (by (try simp only [List.map_toArray, List.map_cons, List.map_nil]); first | done | rfl) ?_; (with_reducible refine (impl_MapValid.calls k (fun k_ => k_ < w.heap.size) _ _ l0_0 (fun k_ => k_ < w.heap.size) _ _ l0_1 true _ ?side1 ?side2 A6.out).mono ?_); (case side1 => exact Kd.V_mk HC0_0.out (Kd.F_below (Kd.C_F (Kd.heap_int .i64) HR0_0.out) (zB_ HB))); (case side2 => exact Kd.V_mk HC0_1.out (Kd.F_below (Kd.C_F (Kd.heap_int .i64) HR0_1.out) (zB_ HB))); rintro e w16 ⟨rfl, hb⟩; refine ⟨_, rfl, ?_⟩; replace BK293 := zK BK293 hb; replace HB := zB HB hb; (try clear hb); have hcz17_0 : w16.cell? ⟨gb293, 0, none⟩ = some (.slice A0_0 l0_0.length c0_0) := (kC BK293.out 0).trans rfl; have hcz17_1 : w16.cell? ⟨gb293, 1, none⟩ = some (.slice A0_1 l0_1.length c0_1) := (kC BK293.out 1).trans rfl; have hfz17_0 := kF BK293.out 0; have hfz17_1 := kF BK293.out 1))
    go_meet
    case rel => exact ⟨_, (true), zt, H', zo, ⟨zK_ BK293⟩, ⟨zB_ HB⟩⟩
   rw [if_neg c14] at H
   have c14b0 : decide (12 < (wrap64 ((l0_0.length : Int) * a1))) = false := dF c14
   clear c14; have H' := A0_ H; clear H
   have hcz18_0 : w5.cell? ⟨gb293, 0, none⟩ = some (.slice A0_0 l0_0.length c0_0) := (kC BK293.out 0).trans rfl
   have hcz18_1 : w5.cell? ⟨gb293, 1, none⟩ = some (.slice A0_1 l0_1.length c0_1) := (kC BK293.out 1).trans rfl
   have hfz18_0 := kF BK293.out 0; have hfz18_1 := kF BK293.out 1
   go_wp2_with (first | ((with_reducible refine gC (f := 27) rfl ?_); refine goesL_ (some 10) rfl rfl Try.func27 (by kernel_rfl) rfl #[.agg #[.slice A0_0 l0_0.length c0_0, .slice A0_1 l0_1.length c0_1]] rfl (by (try simp only [List.map_toArray, List.map_cons, List.map_nil]); first | done | rfl) ?_; (with_reducible refine (impl_MapValid.calls k (fun k_ => k_ < w.heap.size) _ _ l0_0 (fun k_ => k_ < w.heap.size) _ _ l0_1 true _ ?side1 ?side2 A6.out).mono ?_); (case side1 => exact Kd.V_mk HC0_0.out (Kd.F_below (Kd.C_F (Kd.heap_int .i64) HR0_0.out) (zB_ HB))); (case side2 => exact Kd.V_mk HC0_1.out (Kd.F_below (Kd.C_F (Kd.heap_int .i64) HR0_1.out) (zB_ HB))); rintro e w19 ⟨rfl, hb⟩; refine ⟨_, rfl, ?_⟩; replace BK293 := zK BK293 hb; replace HB := zB HB hb; (try clear hb); have hcz20_0 : w19.cell? ⟨gb293, 0, none⟩ = some (.slice A0_0 l0_0.length c0_0) := (kC BK293.out 0).trans rfl; have hcz20_1 : w19.cell? ⟨gb293, 1, none⟩ = some (.slice A0_1 l0_1.length c0_1) := (kC BK293.out 1).trans rfl; have hfz20_0 := kF BK293.out 0; have hfz20_1 := kF BK293.out 1))
   go_meet
   case rel => exact ⟨_, (((l2.length : Int) != (wrap64 ((l0_1.length : Int) / 2)))), zt, H', zo, ⟨zK_ BK293⟩, ⟨zB_ HB⟩⟩
  replace c7 := Bool.eq_false_iff.mpr c7; subst c7
  rw [if_neg (show ¬ (false = true) by decide)] at H
  have H' := A0_ H; clear H
  have hcz21_0 : w5.cell? ⟨gb293, 0, none⟩ = some (.slice A0_0 l0_0.length c0_0) := (kC BK293.out 0).trans rfl
  have hcz21_1 : w5.cell? ⟨gb293, 1, none⟩ = some (.slice A0_1 l0_1.length c0_1) := (kC BK293.out 1).trans rfl
  have hfz21_0 := kF BK293.out 0; have hfz21_1 := kF BK293.out 1
  go_wp2_with (first | ((with_reducible refine gC (f := 27) rfl ?_); refine goesL_ (some 10) rfl rfl Try.func27 (by kernel_rfl) rfl #[.agg #[.slice A0_0 l0_0.length c0_0, .slice A0_1 l0_1.length c0_1]] rfl (by (try simp only [List.map_toArray, List.map_cons, List.map_nil]); first | done | rfl) ?_; (with_reducible refine (impl_MapValid.calls k (fun k_ => k_ < w.heap.size) _ _ l0_0 (fun k_ => k_ < w.heap.size) _ _ l0_1 false _ ?side1 ?side2 A6.out).mono ?_); (case side1 => exact Kd.V_mk HC0_0.out (Kd.F_below (Kd.C_F (Kd.heap_int .i64) HR0_0.out) (zB_ HB))); (case side2 => exact Kd.V_mk HC0_1.out (Kd.F_below (Kd.C_F (Kd.heap_int .i64) HR0_1.out) (zB_ HB))); rintro e w22 ⟨rfl, hb⟩; refine ⟨_, rfl, ?_⟩; replace BK293 := zK BK293 hb; replace HB := zB HB hb; (try clear hb)))
  go_meet
  case rel => exact ⟨_, (true), zt, H', zo, ⟨zK_ BK293⟩, ⟨zB_ HB⟩⟩
 case rest =>
  clear HC4; (try clear c1); (try clear c2); (try clear p2); (try clear p6); (try clear c7); (try clear c8); (try clear c8b0); (try clear c11); (try clear c11b0); (try clear c14); (try clear c14b0); (try clear c15); (try clear hcz12_0); (try clear hcz12_1); (try clear hcz15_0); (try clear hcz15_1); (try clear hcz17_0); (try clear hcz17_1); (try clear hcz18_0); (try clear hcz18_1); (try clear hcz20_0); (try clear hcz20_1); (try clear hcz21_0); (try clear hcz21_1); (try clear hcz9_0); (try clear hcz9_1); (try clear hfz12_0); (try clear hfz12_1); (try clear hfz15_0); (try clear hfz15_1); (try clear hfz17_0); (try clear hfz17_1); (try clear hfz18_0); (try clear hfz18_1); (try clear hfz20_0); (try clear hfz20_1); (try clear hfz21_0); (try clear hfz21_1); (try clear hfz9_0); (try clear hfz9_1); obtain ⟨kq, x36_3, rfl, HA, HJ3, BK293, HB⟩ := hcut
  cases kq with
  | zero => exact absurd HA.out (by simp [impl_VoltageValid.j0])
  | succ kj3 =>
   have H := HA.out; clear HA; simp only [impl_VoltageValid.j0] at H
   by_cases c23 : x36_3 = true
   ·subst c23
    rw [if_pos rfl] at H; obtain rfl := sI H
    go_wp2
    go_ret
    exact ⟨by first | rfl | (simp [*] <;> rfl), zB_ HB⟩
   replace c23 := Bool.eq_false_iff.mpr c23; subst c23
   rw [if_neg (show ¬ (false = true) by decide)] at H
   have H' := A0_ H; clear H
   go_wp2
   go_loopg [39] kj3 (fun kq v39 w' => ∃ (x39_2 : Int), v39 = .int .i64 x39_2 ∧ Aside0 (impl_VoltageValid.l0 kq a1 l2 (l2.length : Int) x39_2 = some r) ∧ Aside0 (kq ≤ kj3) ∧ Aside0 (w'.heap[gb293]? = some (.cells #[(.slice A0_0 l0_0.length c0_0), (.slice A0_1 l0_1.length c0_1)] 25 (0, 0))) ∧ Aside0 (Below w.heap.size w w'))
   case atStart => exact ⟨(0), zt, H', ⟨Nat.le_refl _⟩, ⟨zK_ BK293⟩, ⟨zB_ HB⟩⟩
   case round =>
    clear H'; (try clear c1); (try clear c2); (try clear p2); (try clear p6); (try clear c7); (try clear c8); (try clear c8b0); (try clear c11); (try clear c11b0); (try clear c14); (try clear c14b0); (try clear c15); (try clear c23); (try clear hcz12_0); (try clear hcz12_1); (try clear hcz15_0); (try clear hcz15_1); (try clear hcz17_0); (try clear hcz17_1); (try clear hcz18_0); (try clear hcz18_1); (try clear hcz20_0); (try clear hcz20_1); (try clear hcz21_0); (try clear hcz21_1); (try clear hcz9_0); (try clear hcz9_1); (try clear hfz12_0); (try clear hfz12_1); (try clear hfz15_0); (try clear hfz15_1); (try clear hfz17_0); (try clear hfz17_1); (try clear hfz18_0); (try clear hfz18_1); (try clear hfz20_0); (try clear hfz20_1); (try clear hfz21_0); (try clear hfz21_1); (try clear hfz9_0); (try clear hfz9_1); (try clear p2); (try clear p6); obtain ⟨x39_2, rfl, HA, HK2, BK293, HB⟩ := hrel
    cases gk with
    | zero => exact absurd HA.out (by simp [impl_VoltageValid.l0])
    | succ k2 =>
     have H := HA.out; clear HA; simp only [impl_VoltageValid.l0] at H
     by_cases c24 : x39_2 < (l2.length : Int)
     ·rw [if_pos c24] at H
      have c24b0 : decide (x39_2 < (l2.length : Int)) = true := dT c24
      clear c24
      by_cases c25 : 0 ≤ x39_2
      ·rw [if_pos c25] at H
       have c25b0 : decide (0 ≤ x39_2) = true := dT c25
       clear c25
       by_cases c26 : x39_2 < (l2.length : Int)
       ·rw [if_pos c26] at H
        have c26b0 : decide (x39_2 < (l2.length : Int)) = true := dT c26
        clear c26; obtain ⟨t296, A27, H⟩ := zbind H
        by_cases c28 : t296 = true
        ·subst c28
         rw [if_pos rfl] at H
         by_cases c29 : ((rd_L2 l2 x39_2).length : Int) = a1
         ·rw [if_pos c29] at H
          have c29b0 : (((rd_L2 l2 x39_2).length : Int) == a1) = true := beq_iff_eq.mpr c29
          have c29b1 : (((rd_L2 l2 x39_2).length : Int) != a1) = false := bne_eq_false_iff_eq.mpr c29
          clear c29; have H' := A0_ H; clear H
          have p295 : 0 ≤ (x39_2 : Int) := oD (by assumption)
          have q295 : x39_2 < (l2.length : Int) := oD (by assumption)
          obtain ⟨ad295, A295_0, c295_0, e295, hx295_0, hl295_0, hi295_0⟩ := at_L2 HR2.out x39_2 p295 q295
          cases e295
          replace hx295_0 := (HB.out.cell (wL w _ hx295_0)).trans hx295_0
          have HR295_0 := A0_ hi295_0; have HC295_0 := A0_ hl295_0; clear hi295_0 hl295_0; replace p295 := eq_true p295; replace q295 := eq_true q295
          go_wp2_with (first | ((with_reducible refine gC (f := 10) rfl ?_); refine goesL_ (some 44) rfl rfl Try.func10 (by kernel_rfl) rfl #[.slice A295_0 (rd_L2 l2 x39_2).length c295_0] rfl (by (try simp only [List.map_toArray, List.map_cons, List.map_nil]); first | done | rfl) ?_; (with_reducible refine (impl_PermValid.calls _ _ (rd_L2 l2 x39_2) true _ ?side1 ?side2 A27.out).mono ?_); (case side1 => repeat (first | exact (cB HR295_0.out HB.out) | (with_reducible refine cA ?_ _) | (with_reducible refine cN ?_ _) | (with_reducible refine cD ?_))); (case side2 => exact HC295_0.out); rintro e w30 ⟨rfl, hb⟩; refine ⟨_, rfl, ?_⟩; replace BK293 := zK BK293 hb; replace HB := zB HB hb; (try clear hb)))
          go_roundg k2
          case measure => have := HJ3.out; have := HK2.out; omega
          case rel => exact ⟨(wrap64 (x39_2 + 1)), zt, H', ⟨by have := HJ3.out; have := HK2.out; omega⟩, ⟨zK_ BK293⟩, ⟨zB_ HB⟩⟩
         rw [if_neg c29] at H
         have c29b0 : (((rd_L2 l2 x39_2).length : Int) == a1) = false := beq_eq_false_iff_ne.mpr c29
         have c29b1 : (((rd_L2 l2 x39_2).length : Int) != a1) = true := bne_iff_ne.mpr c29
         obtain rfl := sI H
         have p295 : 0 ≤ (x39_2 : Int) := oD (by assumption)
         have q295 : x39_2 < (l2.length : Int) := oD (by assumption)
         obtain ⟨ad295, A295_0, c295_0, e295, hx295_0, hl295_0, hi295_0⟩ := at_L2 HR2.out x39_2 p295 q295
         cases e295
         replace hx295_0 := (HB.out.cell (wL w _ hx295_0)).trans hx295_0
         have HR295_0 := A0_ hi295_0; have HC295_0 := A0_ hl295_0; clear hi295_0 hl295_0; replace p295 := eq_true p295; replace q295 := eq_true q295
         go_wp2_with (first | ((with_reducible refine gC (f := 10) rfl ?_); refine goesL_ (some 44) rfl rfl Try.func10 (by kernel_rfl) rfl #[.slice A295_0 (rd_L2 l2 x39_2).length c295_0] rfl (by (try simp only [List.map_toArray, List.map_cons, List.map_nil]); first | done | rfl) ?_; (with_reducible refine (impl_PermValid.calls _ _ (rd_L2 l2 x39_2) true _ ?side1 ?side2 A27.out).mono ?_); (case side1 => repeat (first | exact (cB HR295_0.out HB.out) | (with_reducible refine cA ?_ _) | (with_reducible refine cN ?_ _) | (with_reducible refine cD ?_))); (case side2 => exact HC295_0.out); rintro e w31 ⟨rfl, hb⟩; refine ⟨_, rfl, ?_⟩; replace BK293 := zK BK293 hb; replace HB := zB HB hb; (try clear hb)))
         go_ret
         exact ⟨by first | rfl | (simp [*] <;> rfl), zB_ HB⟩
        replace c28 := Bool.eq_false_iff.mpr c28; subst c28
        rw [if_neg (show ¬ (false = true) by decide)] at H
        obtain rfl := sI H
        have p295 : 0 ≤ (x39_2 : Int) := oD (by assumption)
        have q295 : x39_2 < (l2.length : Int) := oD (by assumption)
        obtain ⟨ad295, A295_0, c295_0, e295, hx295_0, hl295_0, hi295_0⟩ := at_L2 HR2.out x39_2 p295 q295
        cases e295
        replace hx295_0 := (HB.out.cell (wL w _ hx295_0)).trans hx295_0
        have HR295_0 := A0_ hi295_0; have HC295_0 := A0_ hl295_0; clear hi295_0 hl295_0; replace p295 := eq_true p295; replace q295 := eq_true q295
        go_wp2_with (first | ((with_reducible refine gC (f := 10) rfl ?_); refine goesL_ (some 44) rfl rfl Try.func10 (by kernel_rfl) rfl #[.slice A295_0 (rd_L2 l2 x39_2).length c295_0] rfl (by (try simp only [List.map_toArray, List.map_cons, List.map_nil]); first | done | rfl) ?_; (with_reducible refine (impl_PermValid.calls _ _ (rd_L2 l2 x39_2) false _ ?side1 ?side2 A27.out).mono ?_); (case side1 => repeat (first | exact (cB HR295_0.out HB.out) | (with_reducible refine cA ?_ _) | (with_reducible refine cN ?_ _) | (with_reducible refine cD ?_))); (case side2 => exact HC295_0.out); rintro e w32 ⟨rfl, hb⟩; refine ⟨_, rfl, ?_⟩; replace BK293 := zK BK293 hb; replace HB := zB HB hb; (try clear hb)))
        go_ret
        exact ⟨by first | rfl | (simp [*] <;> rfl), zB_ HB⟩
       rw [if_neg c26] at H
       exact absurd H (by simp)
      rw [if_neg c25] at H
      exact absurd H (by simp)
     rw [if_neg c24] at H
     have c24b0 : decide (x39_2 < (l2.length : Int)) = false := dF c24
     clear c24; obtain rfl := sI H
     go_wp2
     go_ret
     exact ⟨by first | rfl | (simp [*] <;> rfl), zB_ HB⟩

/-! ### impl_CoverShift: function 6 -/
mutual
def impl_CoverShift.j0 : Nat → Int → List Int → Bool → List Int → List Int → Option (List Int × Bool)
  | 0, _, _, _, _, _ => none
  | k + 1, x1, x3, x28, x298000, x298001 => if x28 = true then (some (([] : List Int), false)) else (impl_CoverShift.l0 k x1 x3 (([] : List Int)) (x298000.length : Int) 0)
def impl_CoverShift.l0 : Nat → Int → List Int → List Int → Int → Int → Option (List Int × Bool)
  | 0, _, _, _, _, _ => none
  | k + 1, x1, x3, x10, x32, x33 => if x33 < x32 then (impl_CoverShift.l1 k x1 x3 x10 x33 x32 x33 x1 0) else (some (x10, true))
def impl_CoverShift.l1 : Nat → Int → List Int → List Int → Int → Int → Int → Int → Int → Option (List Int × Bool)
  | 0, _, _, _, _, _, _, _, _ => none
  | k + 1, x1, x3, x10, x11, x32, x33, x36, x37 => if x37 < x36 then (if 0 ≤ x37 then (if x37 < (x3.length : Int) then (if x10.length < 17592186044416 then (impl_CoverShift.l1 k x1 x3 (x10 ++ [wrap64 ((wrap64 (x1 * x11)) + (rd x3 x37))]) x11 x32 x33 x36 (wrap64 (x37 + 1))) else (none)) else (none)) else (none)) else (impl_CoverShift.l0 k x1 x3 x10 x32 (wrap64 (x33 + 1)))
end
def impl_CoverShift.f (k : Nat) (l0_0 : List Int) (l0_1 : List Int) (a1 : Int) (l2 : List (List Int)) (l3 : List Int) : Option (List Int × Bool) := (impl_VoltageValid.f k l0_0 l0_1 a1 l2).bind fun t298 => (if t298 = true then ((impl_PermValid.f l3).bind fun t299 => (if t299 = true then (impl_CoverShift.j0 k a1 l3 ((l3.length : Int) != a1) l0_0 l0_1) else (impl_CoverShift.j0 k a1 l3 true l0_0 l0_1))) else (impl_CoverShift.j0 k a1 l3 true l0_0 l0_1))
set_option maxHeartbeats 8000000 in
set_option maxRecDepth 100000 in
theorem impl_CoverShift.calls (k : Nat) (A0_0 : Option Addr) (c0_0 : Nat) (l0_0 : List Int) (A0_1 : Option Addr) (c0_1 : Nat) (l0_1 : List Int) (a1 : Int) (A2 : Option Addr) (c2 : Nat) (l2 : List (List Int)) (A3 : Option Addr) (c3 : Nat) (l3 : List Int) (r1 : List Int) (r2 : Bool) (w : World) (hr0_0 : Kd.C (Kd.int .i64) w A0_0 l0_0.length l0_0) (hc0_0 : l0_0.length ≤ c0_0) (hr0_1 : Kd.C (Kd.int .i64) w A0_1 l0_1.length l0_1) (hc0_1 : l0_1.length ≤ c0_1) (hr2 : Kd.C (Kd.slice 3 (Kd.int .i64)) w A2 l2.length l2) (hc2 : l2.length ≤ c2) (hr3 : Kd.C (Kd.int .i64) w A3 l3.length l3) (hc3 : l3.length ≤ c3) (h : impl_CoverShift.f k l0_0 l0_1 a1 l2 l3 = some (r1, r2)) :
    Calls Try.prog 6 #[.agg #[.slice A0_0 l0_0.length c0_0, .slice A0_1 l0_1.length c0_1], .int .i64 a1, .slice A2 l2.length c2, .slice A3 l3.length c3] w fun e w' => ∃ v0_ : Value, e = .returned (.tuple #[v0_, .bool r2]) ∧ Kd.R (Kd.int .i64) 3 w' w.heap.size (fun _ => True) v0_ r1 ∧ Below w.heap.size w w' := by
 have hu25 := Try.underlying25; have HR0_0 := A0_ hr0_0; have HC0_0 := A0_ hc0_0; clear hr0_0 hc0_0; have HR0_1 := A0_ hr0_1; have HC0_1 := A0_ hc0_1; clear hr0_1 hc0_1; have HR2 := A0_ hr2; have HC2 := A0_ hc2; clear hr2 hc2; have HR3 := A0_ hr3; have HC3 := A0_ hc3; clear hr3 hc3
 have HB := A0_ (Below.refl w.heap.size w)
 have H : ((impl_VoltageValid.f k l0_0 l0_1 a1 l2).bind fun t298 => (if t298 = true then ((impl_PermValid.f l3).bind fun t299 => (if t299 = true then (impl_CoverShift.j0 k a1 l3 ((l3.length : Int) != a1) l0_0 l0_1) else (impl_CoverShift.j0 k a1 l3 true l0_0 l0_1))) else (impl_CoverShift.j0 k a1 l3 true l0_0 l0_1))) = some (r1, r2) := h
 clear h; have HC5 := A0_ H; clear H
 go_enter Try.func6, Try.ntmps6
 go_upto_region 1 with (first | ((with_reducible refine gD (N := 4) rfl ?_); refine box_event ?hg (N := 4) ?hd (cs := #[.slice A0_0 l0_0.length c0_0, .slice A0_1 l0_1.length c0_1]) (t := 25) ?hr ?_; (case hd => rfl); (case hg => rfl); (case hr => first | (go_simp; done) | (go_simp; rfl)); intro gb297 hg w6 hbox hb; have BK297 := A0_ (hbox); have GW297 := zG hg HB; have GE297 := zG hg HB; replace HB := zB HB hb; clear hb hbox hg))
 (try simp only [Act.put, List.setIfInBounds_toArray, List.set_cons_zero, List.set_cons_succ])
 go_cut [28] (fun v28 wc => ∃ (kq : Nat) (x28_4 : Bool), v28 = .bool x28_4 ∧ Aside0 (impl_CoverShift.j0 kq a1 l3 x28_4 l0_0 l0_1 = some (r1, r2)) ∧ Aside0 (kq ≤ k) ∧ Aside0 (wc.heap[gb297]? = some (.cells #[(.slice A0_0 l0_0.length c0_0), (.slice A0_1 l0_1.length c0_1)] 25 (0, 0))) ∧ Aside0 (Below w.heap.size w wc))
 case first =>
  have H := HC5.out; clear HC5; obtain ⟨t298, A7, H⟩ := zbind H
  by_cases c8 : t298 = true
  ·subst c8
   have H1 : ((impl_PermValid.f l3).bind fun t299 => (if t299 = true then (impl_CoverShift.j0 k a1 l3 ((l3.length : Int) != a1) l0_0 l0_1) else (impl_CoverShift.j0 k a1 l3 true l0_0 l0_1))) = some (r1, r2) := by rw [if_pos rfl] at H; exact H
   clear H; have H := H1; clear H1; obtain ⟨t299, A9, H⟩ := zbind H
   by_cases c10 : t299 = true
   ·subst c10
    have H1 : (impl_CoverShift.j0 k a1 l3 ((l3.length : Int) != a1) l0_0 l0_1) = some (r1, r2) := by rw [if_pos rfl] at H; exact H
    clear H; have H := H1; clear H1; have H' := A0_ H; clear H
    have hcz11_0 : w6.cell? ⟨gb297, 0, none⟩ = some (.slice A0_0 l0_0.length c0_0) := (kC BK297.out 0).trans rfl
    have hcz11_1 : w6.cell? ⟨gb297, 1, none⟩ = some (.slice A0_1 l0_1.length c0_1) := (kC BK297.out 1).trans rfl
    have hfz11_0 := kF BK297.out 0; have hfz11_1 := kF BK297.out 1
    go_wp2_with (first | ((with_reducible refine gC (f := 15) rfl ?_); refine goesL_ (some 16) rfl rfl Try.func15 (by kernel_rfl) rfl #[.agg #[.slice A0_0 l0_0.length c0_0, .slice A0_1 l0_1.length c0_1], .int .i64 a1, .slice A2 l2.length c2] rfl (by (try simp only [List.map_toArray, List.map_cons, List.map_nil]); first | done | rfl) ?_; (with_reducible refine (impl_VoltageValid.calls k _ _ l0_0 _ _ l0_1 a1 _ _ l2 true _ ?side1 ?side2 ?side3 ?side4 ?side5 ?side6 A7.out).mono ?_); (case side1 => repeat (first | exact (cB HR0_0.out HB.out) | (with_reducible refine cA ?_ _) | (with_reducible refine cN ?_ _) | (with_reducible refine cD ?_))); (case side2 => exact HC0_0.out); (case side3 => repeat (first | exact (cB HR0_1.out HB.out) | (with_reducible refine cA ?_ _) | (with_reducible refine cN ?_ _) | (with_reducible refine cD ?_))); (case side4 => exact HC0_1.out); (case side5 => repeat (first | exact (cB HR2.out HB.out) | (with_reducible refine cA ?_ _) | (with_reducible refine cN ?_ _) | (with_reducible refine cD ?_))); (case side6 => exact HC2.out); rintro e w12 ⟨rfl, hb⟩; refine ⟨_, rfl, ?_⟩; replace BK297 := zK BK297 hb; replace HB := zB HB hb; (try clear hb)) | (go_at_call 10; (with_reducible refine (impl_PermValid.calls _ _ l3 true _ ?side1 ?side2 A9.out).mono ?_); (case side1 => repeat (first | exact (cB HR3.out HB.out) | (with_reducible refine cA ?_ _) | (with_reducible refine cN ?_ _) | (with_reducible refine cD ?_))); (case side2 => exact HC3.out); rintro e w13 ⟨rfl, hb⟩; replace BK297 := zK BK297 hb; replace HB := zB HB hb; (try clear hb)))
    go_meet
    case rel => exact ⟨_, (((l3.length : Int) != a1)), zt, H', zo, ⟨zK_ BK297⟩, ⟨zB_ HB⟩⟩
   replace c10 := Bool.eq_false_iff.mpr c10; subst c10
   have H1 : (impl_CoverShift.j0 k a1 l3 true l0_0 l0_1) = some (r1, r2) := by rw [if_neg (show ¬ (false = true) by decide)] at H; exact H
   clear H; have H := H1; clear H1; have H' := A0_ H; clear H
   have hcz14_0 : w6.cell? ⟨gb297, 0, none⟩ = some (.slice A0_0 l0_0.length c0_0) := (kC BK297.out 0).trans rfl
   have hcz14_1 : w6.cell? ⟨gb297, 1, none⟩ = some (.slice A0_1 l0_1.length c0_1) := (kC BK297.out 1).trans rfl
   have hfz14_0 := kF BK297.out 0; have hfz14_1 := kF BK297.out 1
   go_wp2_with (first | ((with_reducible refine gC (f := 15) rfl ?_); refine goesL_ (some 16) rfl rfl Try.func15 (by kernel_rfl) rfl #[.agg #[.slice A0_0 l0_0.length c0_0, .slice A0_1 l0_1.length c0_1], .int .i64 a1, .slice A2 l2.length c2] rfl (by (try simp only [List.map_toArray, List.map_cons, List.map_nil]); first | done | rfl) ?_; (with_reducible refine (impl_VoltageValid.calls k _ _ l0_0 _ _ l0_1 a1 _ _ l2 true _ ?side1 ?side2 ?side3 ?side4 ?side5 ?side6 A7.out).mono ?_); (case side1 => repeat (first | exact (cB HR0_0.out HB.out) | (with_reducible refine cA ?_ _) | (with_reducible refine cN ?_ _) | (with_reducible refine cD ?_))); (case side2 => exact HC0_0.out); (case side3 => repeat (first | exact (cB HR0_1.out HB.out) | (with_reducible refine cA ?_ _) | (with_reducible refine cN ?_ _) | (with_reducible refine cD ?_))); (case side4 => exact HC0_1.out); (case side5 => repeat (first | exact (cB HR2.out HB.out) | (with_reducible refine cA ?_ _) | (with_reducible refine cN ?_ _) | (with_reducible refine cD ?_))); (case side6 => exact HC2.out); rintro e w15 ⟨rfl, hb⟩; refine ⟨_, rfl, ?_⟩; replace BK297 := zK BK297 hb; replace HB := zB HB hb; (try clear hb)) | (go_at_call 10; (with_reducible refine (impl_PermValid.calls _ _ l3 false _ ?side1 ?side2 A9.out).mono ?_); (case side1 => repeat (first | exact (cB HR3.out HB.out) | (with_reducible refine cA ?_ _) | (with_reducible refine cN ?_ _) | (with_reducible refine cD ?_))); (case side2 => exact HC3.out); rintro e w16 ⟨rfl, hb⟩; replace BK297 := zK BK297 hb; replace HB := zB HB hb; (try clear hb)))
   go_meet
   case rel => exact ⟨_, (true), zt, H', zo, ⟨zK_ BK297⟩, ⟨zB_ HB⟩⟩
  replace c8 := Bool.eq_false_iff.mpr c8; subst c8
  have H1 : (impl_CoverShift.j0 k a1 l3 true l0_0 l0_1) = some (r1, r2) := by rw [if_neg (show ¬ (false = true) by decide)] at H; exact H
  clear H; have H := H1; clear H1; have H' := A0_ H; clear H
  have hcz17_0 : w6.cell? ⟨gb297, 0, none⟩ = some (.slice A0_0 l0_0.length c0_0) := (kC BK297.out 0).trans rfl
  have hcz17_1 : w6.cell? ⟨gb297, 1, none⟩ = some (.slice A0_1 l0_1.length c0_1) := (kC BK297.out 1).trans rfl
  have hfz17_0 := kF BK297.out 0; have hfz17_1 := kF BK297.out 1
  go_wp2_with (first | ((with_reducible refine gC (f := 15) rfl ?_); refine goesL_ (some 16) rfl rfl Try.func15 (by kernel_rfl) rfl #[.agg #[.slice A0_0 l0_0.length c0_0, .slice A0_1 l0_1.length c0_1], .int .i64 a1, .slice A2 l2.length c2] rfl (by (try simp only [List.map_toArray, List.map_cons, List.map_nil]); first | done | rfl) ?_; (with_reducible refine (impl_VoltageValid.calls k _ _ l0_0 _ _ l0_1 a1 _ _ l2 false _ ?side1 ?side2 ?side3 ?side4 ?side5 ?side6 A7.out).mono ?_); (case side1 => repeat (first | exact (cB HR0_0.out HB.out) | (with_reducible refine cA ?_ _) | (with_reducible refine cN ?_ _) | (with_reducible refine cD ?_))); (case side2 => exact HC0_0.out); (case side3 => repeat (first | exact (cB HR0_1.out HB.out) | (with_reducible refine cA ?_ _) | (with_reducible refine cN ?_ _) | (with_reducible refine cD ?_))); (case side4 => exact HC0_1.out); (case side5 => repeat (first | exact (cB HR2.out HB.out) | (with_reducible refine cA ?_ _) | (with_reducible refine cN ?_ _) | (with_reducible refine cD ?_))); (case side6 => exact HC2.out); rintro e w18 ⟨rfl, hb⟩; refine ⟨_, rfl, ?_⟩; replace BK297 := zK BK297 hb; replace HB := zB HB hb; (try clear hb)))
  go_meet
  case rel => exact ⟨_, (true), zt, H', zo, ⟨zK_ BK297⟩, ⟨zB_ HB⟩⟩
 case rest =>
  clear HC5; (try clear c1); (try clear c2); (try clear p2); (try clear c3); (try clear c6); (try clear c8); (try clear c10); (try clear c15); (try clear hcz11_0); (try clear hcz11_1); (try clear hcz14_0); (try clear hcz14_1); (try clear hcz17_0); (try clear hcz17_1); (try clear hfz11_0); (try clear hfz11_1); (try clear hfz14_0); (try clear hfz14_1); (try clear hfz17_0); (try clear hfz17_1); obtain ⟨kq, x28_4, rfl, HA, HJ4, BK297, HB⟩ := hcut
  cases kq with
  | zero => exact absurd HA.out (by simp [impl_CoverShift.j0])
  | succ kj4 =>
   have H := HA.out; clear HA; simp only [impl_CoverShift.j0] at H
   by_cases c19 : x28_4 = true
   ·subst c19
    have H1 : (some (([] : List Int), false)) = some (r1, r2) := by rw [if_pos rfl] at H; exact H
    clear H; have H := H1; clear H1; simp only [Option.some.injEq, Prod.mk.injEq] at H; obtain ⟨rfl, rfl⟩ := H
    go_wp2
    go_ret2
    exact ⟨_, by first | rfl | (simp [*] <;> rfl), by first | exact Kd.R_nil _ _ _ _ _ | exact Kd.N_nil _ _ _ _ _ | exact Kd.V_nil _ _ _ _ _ | exact Kd.Q_nil _ _ _ _ _ | exact Kd.S_nil _ _ _ _ _, zB_ HB⟩
   replace c19 := Bool.eq_false_iff.mpr c19; subst c19
   have H1 : (impl_CoverShift.l0 kj4 a1 l3 (([] : List Int)) (l0_0.length : Int) 0) = some (r1, r2) := by rw [if_neg (show ¬ (false = true) by decide)] at H; exact H
   clear H; have H := H1; clear H1
   obtain ⟨y300, hy300⟩ : ∃ y_ : List Int, y_ = (([] : List Int)) := ⟨_, rfl⟩
   replace H : (impl_CoverShift.l0 kj4 a1 l3 y300 (l0_0.length : Int) 0) = some (r1, r2) := by first | (rw [hy300]; with_reducible exact H) | (have H2_ := (Option.bind_some _ _).symm.trans H; rw [hy300]; with_reducible exact H2_) | (have H2_ := (Option.bind_some _ _).symm.trans H; with_reducible exact H2_) | with_reducible exact H | (rw [hy300]; exact H) | exact H
   have Ny300 := A0_ hy300; clear hy300; have H' := A0_ H; clear H
   go_wp2_with (first | ((with_reducible refine gD (N := 29) rfl ?_); refine Kd.R_lit (Kd.int .i64) _ 3 ?hg (N := 29) ?hd (xs := ([] : List Int)) (inner := []) (ok := fun _ => True) (okp := fun _ => True) ?hr ?hp (fun _ hk => hk) trivial (Below.refl _ _) (Nat.le_refl _) (by simp) ?_; (case hd => rfl); (case hg => rfl); (case hr => first | (go_simp; done) | (go_simp; rfl)); (case hp => exact (Reps.none _ _)); intro v301 w20 ho21 hb hg_ hnew_; clear hg_ hnew_; (first | rw [← Ny300.out] at ho21 | (simp only [Int.reduceToNat] at ho21; rw [← Ny300.out] at ho21)); have HO302 := A0_ (rL ho21 (bZ (zB_ HB))); replace BK297 := zK BK297 hb; replace HB := zB HB hb; clear hb ho21; have hcz22_0 : w20.cell? ⟨gb297, 0, none⟩ = some (.slice A0_0 l0_0.length c0_0) := (kC BK297.out 0).trans rfl; have hcz22_1 : w20.cell? ⟨gb297, 1, none⟩ = some (.slice A0_1 l0_1.length c0_1) := (kC BK297.out 1).trans rfl; have hfz22_0 := kF BK297.out 0; have hfz22_1 := kF BK297.out 1))
   go_loopg [10, 33] kj4 (fun kq v10 v33 w' => ∃ (x10_2 : List Int) (x33_2 : Int), v33 = .int .i64 x33_2 ∧ Aside0 (impl_CoverShift.l0 kq a1 l3 x10_2 (l0_0.length : Int) x33_2 = some (r1, r2)) ∧ Aside0 (kq ≤ kj4) ∧ Aside0 (Kd.R (Kd.int .i64) 3 w' w.heap.size (fun _ => True) v10 x10_2) ∧ Aside0 (w'.heap[gb297]? = some (.cells #[(.slice A0_0 l0_0.length c0_0), (.slice A0_1 l0_1.length c0_1)] 25 (0, 0))) ∧ Aside0 (Below w.heap.size w w'))
   case atStart => exact ⟨(y300), (0), zt, H', ⟨Nat.le_refl _⟩, ⟨zR_ HO302⟩, ⟨zK_ BK297⟩, ⟨zB_ HB⟩⟩
   case round =>
    clear H'; (try clear c1); (try clear c2); (try clear p2); (try clear c3); (try clear c6); (try clear c8); (try clear c10); (try clear c15); (try clear c19); (try clear hcz11_0); (try clear hcz11_1); (try clear hcz14_0); (try clear hcz14_1); (try clear hcz17_0); (try clear hcz17_1); (try clear hcz22_0); (try clear hcz22_1); (try clear hfz11_0); (try clear hfz11_1); (try clear hfz14_0); (try clear hfz14_1); (try clear hfz17_0); (try clear hfz17_1); (try clear hfz22_0); (try clear hfz22_1); (try clear p2); obtain ⟨x10_2, x33_2, rfl, HA, HK2, HO_10, BK297, HB⟩ := hrel
    cases gk with
    | zero => exact absurd HA.out (by simp [impl_CoverShift.l0])
    | succ k2 =>
     have H := HA.out; clear HA; simp only [impl_CoverShift.l0] at H
     by_cases c23 : x33_2 < (l0_0.length : Int)
     ·rw [if_pos c23] at H
      have c23b0 : decide (x33_2 < (l0_0.length : Int)) = true := dT c23
      clear c23; have H' := A0_ H; clear H
      go_wp2
      go_loopg [10, 37] k2 (fun kq v10 v37 w' => ∃ (x10_3 : List Int) (x37_3 : Int), v37 = .int .i64 x37_3 ∧ Aside0 (impl_CoverShift.l1 kq a1 l3 x10_3 x33_2 (l0_0.length : Int) x33_2 a1 x37_3 = some (r1, r2)) ∧ Aside0 (kq ≤ k2) ∧ Aside0 (Kd.R (Kd.int .i64) 3 w' w.heap.size (fun _ => True) v10 x10_3) ∧ Aside0 (w'.heap[gb297]? = some (.cells #[(.slice A0_0 l0_0.length c0_0), (.slice A0_1 l0_1.length c0_1)] 25 (0, 0))) ∧ Aside0 (Below w.heap.size w w'))
      case atStart => exact ⟨(x10_2), (0), zt, H', ⟨Nat.le_refl _⟩, ⟨zR_ HO_10⟩, ⟨zK_ BK297⟩, ⟨zB_ HB⟩⟩
      case round =>
       clear H'; (try clear c1); (try clear c2); (try clear p2); (try clear c3); (try clear c6); (try clear c8); (try clear c10); (try clear c15); (try clear c19); (try clear c23); (try clear c23b0); (try clear hcz11_0); (try clear hcz11_1); (try clear hcz14_0); (try clear hcz14_1); (try clear hcz17_0); (try clear hcz17_1); (try clear hcz22_0); (try clear hcz22_1); (try clear hfz11_0); (try clear hfz11_1); (try clear hfz14_0); (try clear hfz14_1); (try clear hfz17_0); (try clear hfz17_1); (try clear hfz22_0); (try clear hfz22_1); (try clear p2); obtain ⟨x10_3, x37_3, rfl, HA, HK3, HO_10, BK297, HB⟩ := hrel
       cases gk with
       | zero => exact absurd HA.out (by simp [impl_CoverShift.l1])
       | succ k3 =>
        have H := HA.out; clear HA; simp only [impl_CoverShift.l1] at H
        by_cases c24 : x37_3 < a1
        ·rw [if_pos c24] at H
         have c24b0 : decide (x37_3 < a1) = true := dT c24
         clear c24
         by_cases c25 : 0 ≤ x37_3
         ·rw [if_pos c25] at H
          have c25b0 : decide (0 ≤ x37_3) = true := dT c25
          clear c25
          by_cases c26 : x37_3 < (l3.length : Int)
          ·rw [if_pos c26] at H
           have c26b0 : decide (x37_3 < (l3.length : Int)) = true := dT c26
           clear c26
           by_cases c27 : x10_3.length < 17592186044416
           ·rw [if_pos c27] at H
            have LMc27 := A0_ c27; clear c27
            obtain ⟨y304, hy304⟩ : ∃ y_ : List Int, y_ = (x10_3 ++ [wrap64 ((wrap64 (a1 * x33_2)) + (rd l3 x37_3))]) := ⟨_, rfl⟩
            replace H : (impl_CoverShift.l1 k3 a1 l3 y304 x33_2 (l0_0.length : Int) x33_2 a1 (wrap64 (x37_3 + 1))) = some (r1, r2) := by first | (rw [hy304]; with_reducible exact H) | (have H2_ := (Option.bind_some _ _).symm.trans H; rw [hy304]; with_reducible exact H2_) | (have H2_ := (Option.bind_some _ _).symm.trans H; with_reducible exact H2_) | with_reducible exact H | (rw [hy304]; exact H) | exact H
            have Ny304 := A0_ hy304; clear hy304; have H' := A0_ H; clear H
            have p303 : 0 ≤ (x37_3 : Int) := oD (by assumption)
            have q303 : x37_3 < (l3.length : Int) := oD (by assumption)
            obtain ⟨ad303, e303, hx303_0⟩ := tI HR3.out x37_3 p303 q303
            cases e303
            replace hx303_0 := (HB.out.cell (wL w _ hx303_0)).trans hx303_0
            replace p303 := eq_true p303; replace q303 := eq_true q303
            go_wp2_with (first | ((with_reducible refine gB (b := .append) (xs := #[.tmp 40, .tmp 49]) rfl ?_); at_builtin; refine Kd.R_append (Kd.int .i64) (w0 := w) w.heap.size rfl (.tmp 40) (.tmp 49) 23 3 (.int .i64 0) 8 rfl Try.underlying23 info3 rfl (by decide) (by omega) u10 x10_3 (wrap64 ((wrap64 (a1 * x33_2)) + (rd l3 x37_3))) [.int .i64 (wrap64 ((wrap64 (a1 * x33_2)) + (rd l3 x37_3)))] (fun _ => True) (fun _ => False) rfl rfl ?aP (fun _ hk => hk.elim) ?aF ?aO ?aB ?aS ?aL ?_; (case aP => exact rfl); (case aB => exact (zB_ HB)); (case aF => exact (fun _ _ => trivial)); (case aO => exact (zR_ HO_10)); (case aS => exact (bZ (zB_ HB))); (case aL => have := LMc27.out; omega); intro v305 w28 ho hb hg hat; rw [← Ny304.out] at ho; replace BK297 := A0_ (blk_grown (g := gb297) (o := .cells #[.slice A0_0 l0_0.length c0_0, .slice A0_1 l0_1.length c0_1] 25 (0, 0)) (zK_ BK297) hg (Kd.R_ne HO_10.out BK297.out (by decide))); replace HB := A0_ (hb); have HO306 := A0_ (ho); clear HO_10 ho hb hg hat))
            go_roundg k3
            case measure => have := HJ4.out; have := HK2.out; have := HK3.out; omega
            case rel => exact ⟨(y304), (wrap64 (x37_3 + 1)), zt, H', ⟨by have := HJ4.out; have := HK2.out; have := HK3.out; omega⟩, ⟨zR_ HO306⟩, ⟨zK_ BK297⟩, ⟨zB_ HB⟩⟩
           rw [if_neg c27] at H
           exact absurd H (by simp)
          rw [if_neg c26] at H
          exact absurd H (by simp)
         rw [if_neg c25] at H
         exact absurd H (by simp)
        rw [if_neg c24] at H
        have c24b0 : decide (x37_3 < a1) = false := dF c24
        clear c24; have H' := A0_ H; clear H
        go_wp2
        go_roundg k3
        case measure => have := HJ4.out; have := HK2.out; have := HK3.out; omega
        case rel => exact ⟨(x10_3), (wrap64 (x33_2 + 1)), zt, H', ⟨by have := HJ4.out; have := HK2.out; have := HK3.out; omega⟩, ⟨zR_ HO_10⟩, ⟨zK_ BK297⟩, ⟨zB_ HB⟩⟩
     rw [if_neg c23] at H
     have c23b0 : decide (x33_2 < (l0_0.length : Int)) = false := dF c23
     clear c23; simp only [Option.some.injEq, Prod.mk.injEq] at H; obtain ⟨rfl, rfl⟩ := H
     go_wp2
     go_ret2
     exact ⟨_, by first | rfl | (simp [*] <;> rfl), zR_ HO_10, zB_ HB⟩

end Go.Proofs.Ytlckmmnpcljhoaa.PFnShift
