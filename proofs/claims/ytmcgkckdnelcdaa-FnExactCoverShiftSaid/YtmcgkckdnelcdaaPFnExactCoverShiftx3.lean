-- Made by a program of this session (wip/tools) out of the loaded program; not trusted: Lean checks it.
import Derived.Test.YtmcgkckdnelcdaaPFnExactCoverShiftx0
import Derived.Test.YtmcgkckdnelcdaaPFnExactCoverShiftx2
namespace Go.Proofs.Ytmcgkckdnelcdaa.PFnExactCoverShift
open Go.RowKit Go.Proofs.YtmcgkckdnelcdaaW.PrintWords Go.Proofs.YtmcgkckdnelcdaaW.PrintLast Go.Proofs.YtmcgkckdnelcdaaW.PrintMore
attribute [local go_sem] max2_int min2_int max_two min_two max_three min_three max_four min_four   -- for this text's walks alone
set_option linter.unusedVariables false
set_option linter.unusedSimpArgs false

/-! ### spec_VoltageValid: function 17 -/
mutual
def spec_VoltageValid.j0 : Nat → Int → List (List Int) → Bool → Option (Bool)
  | 0, _, _, _ => none
  | k + 1, x1, x2, x32 => if x32 = true then (some false) else (spec_VoltageValid.l0 k x1 x2 0)
def spec_VoltageValid.l0 : Nat → Int → List (List Int) → Int → Option (Bool)
  | 0, _, _, _ => none
  | k + 1, x1, x2, x7 => if x7 < (x2.length : Int) then (if 0 ≤ x7 then ((spec_PermValid.f k (rd_L1 x2 x7)).bind fun t182 => (if t182 = true then (if ((rd_L1 x2 x7).length : Int) = x1 then (spec_VoltageValid.l0 k x1 x2 (wrap64 (x7 + 1))) else (some false)) else (some false))) else (none)) else (some true)
end
def spec_VoltageValid.f (k : Nat) (l0_0 : List Int) (l0_1 : List Int) (a1 : Int) (l2 : List (List Int)) : Option (Bool) := (spec_MapValid.f k l0_0 l0_1).bind fun t179 => (if t179 = true then ((spec_l6In.f a1 1 6).bind fun t180 => (if t180 = true then (if (wrap64 (a1 * (l0_0.length : Int))) > 12 then (spec_VoltageValid.j0 k a1 l2 true) else (spec_VoltageValid.j0 k a1 l2 ((l2.length : Int) != (wrap64 ((l0_1.length : Int) / 2))))) else (spec_VoltageValid.j0 k a1 l2 true))) else (spec_VoltageValid.j0 k a1 l2 true))
set_option maxHeartbeats 8000000 in
set_option maxRecDepth 100000 in
theorem spec_VoltageValid.calls (k : Nat) (A0_0 : Option Addr) (c0_0 : Nat) (l0_0 : List Int) (A0_1 : Option Addr) (c0_1 : Nat) (l0_1 : List Int) (a1 : Int) (A2 : Option Addr) (c2 : Nat) (l2 : List (List Int)) (r : Bool) (w : World) (hr0_0 : Kd.C (Kd.int .i64) w A0_0 l0_0.length l0_0) (hc0_0 : l0_0.length ≤ c0_0) (hr0_1 : Kd.C (Kd.int .i64) w A0_1 l0_1.length l0_1) (hc0_1 : l0_1.length ≤ c0_1) (hr2 : Kd.C (Kd.slice 3 (Kd.int .i64)) w A2 l2.length l2) (hc2 : l2.length ≤ c2) (h : spec_VoltageValid.f k l0_0 l0_1 a1 l2 = some r) :
    Calls Try.prog 17 #[.agg #[.slice A0_0 l0_0.length c0_0, .slice A0_1 l0_1.length c0_1], .int .i64 a1, .slice A2 l2.length c2] w fun e w' => e = .returned (.bool r) ∧ Below w.heap.size w w' := by
 have hu29 := Try.underlying29
 have HR0_0 := Aside0.mk hr0_0
 have HC0_0 := Aside0.mk hc0_0
 clear hr0_0 hc0_0
 have HR0_1 := Aside0.mk hr0_1
 have HC0_1 := Aside0.mk hc0_1
 clear hr0_1 hc0_1
 have HR2 := Aside0.mk hr2
 have HC2 := Aside0.mk hc2
 clear hr2 hc2
 have HB := Aside0.mk (Below.refl w.heap.size w)
 have H : ((spec_MapValid.f k l0_0 l0_1).bind fun t179 => (if t179 = true then ((spec_l6In.f a1 1 6).bind fun t180 => (if t180 = true then (if (wrap64 (a1 * (l0_0.length : Int))) > 12 then (spec_VoltageValid.j0 k a1 l2 true) else (spec_VoltageValid.j0 k a1 l2 ((l2.length : Int) != (wrap64 ((l0_1.length : Int) / 2))))) else (spec_VoltageValid.j0 k a1 l2 true))) else (spec_VoltageValid.j0 k a1 l2 true))) = some r := h
 clear h
 have HC4 := Aside0.mk H
 clear H
 go_enter Try.func17, Try.ntmps17
 go_upto_region 1 with (first | ((with_reducible refine gate_dst (N := 3) rfl ?_); refine box_event ?hg (N := 3) ?hd (cs := #[.slice A0_0 l0_0.length c0_0, .slice A0_1 l0_1.length c0_1]) (t := 29) ?hr ?_; (case hd => rfl); (case hg => rfl); (case hr => first | (go_simp; done) | (go_simp; rfl)); intro gb178 hg w5 hbox hb; have n0_ := Aside0.mk (below_step (by repeat (first | (with_reducible first | exact HB.out | apply below_alloc | apply pw_below_drewN | apply below_drew1) | exact HB.out)) hb); have n1_ := Aside0.mk (hbox); have n2_ := Aside0.mk ((by rw [hg]; exact (below_size (by repeat (first | (with_reducible first | exact HB.out | apply below_alloc | apply pw_below_drewN | apply below_drew1) | exact HB.out))) : w.heap.size ≤ gb178)); have n3_ := Aside0.mk ((by rw [hg]; exact (below_size (by repeat (first | (with_reducible first | exact HB.out | apply below_alloc | apply pw_below_drewN | apply below_drew1) | exact HB.out))) : w.heap.size ≤ gb178)); clear HB; have HB := n0_; have BK178 := n1_; have GW178 := n2_; have GE178 := n3_; clear n0_ n1_ n2_ n3_; clear hb hbox hg))
 (try simp only [Act.put, List.setIfInBounds_toArray, List.set_cons_zero, List.set_cons_succ])
 go_cut [32] (fun v32 wc => ∃ (kq : Nat) (x32_3 : Bool), v32 = .bool x32_3 ∧ Aside0 (spec_VoltageValid.j0 kq a1 l2 x32_3 = some r) ∧ Aside0 (kq ≤ k) ∧ Aside0 (wc.heap[gb178]? = some (.cells #[(.slice A0_0 l0_0.length c0_0), (.slice A0_1 l0_1.length c0_1)] 29 (0, 0))) ∧ Aside0 (Below w.heap.size w wc))
 case first =>
  have H := HC4.out
  clear HC4
  replace H := Option.bind_eq_some_iff.mp H
  obtain ⟨t179, A60, H⟩ := H
  replace H : (if t179 = true then ((spec_l6In.f a1 1 6).bind fun t180 => (if t180 = true then (if (wrap64 (a1 * (l0_0.length : Int))) > 12 then (spec_VoltageValid.j0 k a1 l2 true) else (spec_VoltageValid.j0 k a1 l2 ((l2.length : Int) != (wrap64 ((l0_1.length : Int) / 2))))) else (spec_VoltageValid.j0 k a1 l2 true))) else (spec_VoltageValid.j0 k a1 l2 true)) = some r := H
  have A6 := Aside0.mk A60
  clear A60
  by_cases c7 : t179 = true
  ·subst c7
   have H1 : ((spec_l6In.f a1 1 6).bind fun t180 => (if t180 = true then (if (wrap64 (a1 * (l0_0.length : Int))) > 12 then (spec_VoltageValid.j0 k a1 l2 true) else (spec_VoltageValid.j0 k a1 l2 ((l2.length : Int) != (wrap64 ((l0_1.length : Int) / 2))))) else (spec_VoltageValid.j0 k a1 l2 true))) = some r := by rw [if_pos rfl] at H; exact H
   clear H
   have H := H1
   clear H1
   replace H := Option.bind_eq_some_iff.mp H
   obtain ⟨t180, A80, H⟩ := H
   replace H : (if t180 = true then (if (wrap64 (a1 * (l0_0.length : Int))) > 12 then (spec_VoltageValid.j0 k a1 l2 true) else (spec_VoltageValid.j0 k a1 l2 ((l2.length : Int) != (wrap64 ((l0_1.length : Int) / 2))))) else (spec_VoltageValid.j0 k a1 l2 true)) = some r := H
   have A8 := Aside0.mk A80
   clear A80
   by_cases c9 : t180 = true
   ·subst c9
    have H1 : (if (wrap64 (a1 * (l0_0.length : Int))) > 12 then (spec_VoltageValid.j0 k a1 l2 true) else (spec_VoltageValid.j0 k a1 l2 ((l2.length : Int) != (wrap64 ((l0_1.length : Int) / 2))))) = some r := by rw [if_pos rfl] at H; exact H
    clear H
    have H := H1
    clear H1
    by_cases c10 : (wrap64 (a1 * (l0_0.length : Int))) > 12
    ·rw [if_pos c10] at H
     have c10b0 : decide (12 < (wrap64 (a1 * (l0_0.length : Int)))) = true := decide_eq_true c10
     clear c10
     (first | rw [c10b0] | (simp only [i64_w, i32_w]; rw [c10b0]) | skip)
     have H' := Aside0.mk H
     clear H
     have hcz11_0 : w5.cell? ⟨gb178, 0, none⟩ = some (.slice A0_0 l0_0.length c0_0) := (blk_cell BK178.out 0).trans rfl
     have hcz11_1 : w5.cell? ⟨gb178, 1, none⟩ = some (.slice A0_1 l0_1.length c0_1) := (blk_cell BK178.out 1).trans rfl
     have hfz11_0 := blk_frozen BK178.out 0
     have hfz11_1 := blk_frozen BK178.out 1
     go_wp2_with (first | ((with_reducible refine gate_callee (f := 56) rfl ?_); refine goesL_ (some 9) rfl rfl Try.func56 (by kernel_rfl) rfl #[.agg #[.slice A0_0 l0_0.length c0_0, .slice A0_1 l0_1.length c0_1]] rfl (by (try simp only [List.map_toArray, List.map_cons, List.map_nil]); first | done | rfl | (simp only [List.length_drop, List.length_take]; rfl)) ?_; (with_reducible refine (spec_MapValid.calls k _ _ l0_0 _ _ l0_1 true _ ?side1 ?side2 ?side3 ?side4 A6.out).mono ?_); (case side1 => repeat (first | exact (Kd.C_below HR0_0.out HB.out) | (with_reducible refine Kd.C_alloc ?_ _))); (case side2 => exact HC0_0.out); (case side3 => repeat (first | exact (Kd.C_below HR0_1.out HB.out) | (with_reducible refine Kd.C_alloc ?_ _))); (case side4 => exact HC0_1.out); rintro e w12 ⟨rfl, hb⟩; refine ⟨_, rfl, ?_⟩; have n0_ := Aside0.mk (blk_below (g := gb178) (o := .cells #[.slice A0_0 l0_0.length c0_0, .slice A0_1 l0_1.length c0_1] 29 (0, 0)) (by (with_reducible repeat refine blk_alloc ?_ _); exact BK178.out) hb); have n1_ := Aside0.mk (below_step (by repeat (first | (with_reducible first | exact HB.out | apply below_alloc | apply pw_below_drewN | apply below_drew1 | refine below_set ?_ GE178.out) | exact HB.out)) hb); clear BK178; clear HB; have BK178 := n0_; have HB := n1_; clear n0_ n1_; (try clear hb); (try clear hb2); (try clear hk); (try clear hi)) | (go_at_call 57; (with_reducible refine (spec_l6In.calls a1 1 6 true _ A8.out).mono ?_); rintro e w' ⟨rfl, ⟨nd, rfl⟩⟩; have hcz13_0 : w12.cell? ⟨gb178, 0, none⟩ = some (.slice A0_0 l0_0.length c0_0) := (blk_cell BK178.out 0).trans rfl; have hcz13_1 : w12.cell? ⟨gb178, 1, none⟩ = some (.slice A0_1 l0_1.length c0_1) := (blk_cell BK178.out 1).trans rfl; have hfz13_0 := blk_frozen BK178.out 0; have hfz13_1 := blk_frozen BK178.out 1))
     go_meet
     case rel => exact ⟨_, (true), (by first | rfl | (simp; done) | (simp [*]; done)), H', ⟨by first | omega | exact Nat.le_refl _⟩, ⟨by (with_reducible repeat (first | refine blk_drewN ?_ _ | refine blk_drew ?_ | refine blk_alloc ?_ _)); exact BK178.out⟩, ⟨by repeat (first | (with_reducible first | exact HB.out | apply below_alloc | apply pw_below_drewN | apply below_drew1 | refine below_set ?_ GE178.out) | exact HB.out)⟩⟩
    ·rw [if_neg c10] at H
     have c10b0 : decide (12 < (wrap64 (a1 * (l0_0.length : Int)))) = false := decide_eq_false c10
     clear c10
     (first | rw [c10b0] | (simp only [i64_w, i32_w]; rw [c10b0]) | skip)
     have H' := Aside0.mk H
     clear H
     have hcz14_0 : w5.cell? ⟨gb178, 0, none⟩ = some (.slice A0_0 l0_0.length c0_0) := (blk_cell BK178.out 0).trans rfl
     have hcz14_1 : w5.cell? ⟨gb178, 1, none⟩ = some (.slice A0_1 l0_1.length c0_1) := (blk_cell BK178.out 1).trans rfl
     have hfz14_0 := blk_frozen BK178.out 0
     have hfz14_1 := blk_frozen BK178.out 1
     go_wp2_with (first | ((with_reducible refine gate_callee (f := 56) rfl ?_); refine goesL_ (some 9) rfl rfl Try.func56 (by kernel_rfl) rfl #[.agg #[.slice A0_0 l0_0.length c0_0, .slice A0_1 l0_1.length c0_1]] rfl (by (try simp only [List.map_toArray, List.map_cons, List.map_nil]); first | done | rfl | (simp only [List.length_drop, List.length_take]; rfl)) ?_; (with_reducible refine (spec_MapValid.calls k _ _ l0_0 _ _ l0_1 true _ ?side1 ?side2 ?side3 ?side4 A6.out).mono ?_); (case side1 => repeat (first | exact (Kd.C_below HR0_0.out HB.out) | (with_reducible refine Kd.C_alloc ?_ _))); (case side2 => exact HC0_0.out); (case side3 => repeat (first | exact (Kd.C_below HR0_1.out HB.out) | (with_reducible refine Kd.C_alloc ?_ _))); (case side4 => exact HC0_1.out); rintro e w15 ⟨rfl, hb⟩; refine ⟨_, rfl, ?_⟩; have n0_ := Aside0.mk (blk_below (g := gb178) (o := .cells #[.slice A0_0 l0_0.length c0_0, .slice A0_1 l0_1.length c0_1] 29 (0, 0)) (by (with_reducible repeat refine blk_alloc ?_ _); exact BK178.out) hb); have n1_ := Aside0.mk (below_step (by repeat (first | (with_reducible first | exact HB.out | apply below_alloc | apply pw_below_drewN | apply below_drew1 | refine below_set ?_ GE178.out) | exact HB.out)) hb); clear BK178; clear HB; have BK178 := n0_; have HB := n1_; clear n0_ n1_; (try clear hb); (try clear hb2); (try clear hk); (try clear hi)) | (go_at_call 57; (with_reducible refine (spec_l6In.calls a1 1 6 true _ A8.out).mono ?_); rintro e w' ⟨rfl, ⟨nd, rfl⟩⟩; have hcz16_0 : w15.cell? ⟨gb178, 0, none⟩ = some (.slice A0_0 l0_0.length c0_0) := (blk_cell BK178.out 0).trans rfl; have hcz16_1 : w15.cell? ⟨gb178, 1, none⟩ = some (.slice A0_1 l0_1.length c0_1) := (blk_cell BK178.out 1).trans rfl; have hfz16_0 := blk_frozen BK178.out 0; have hfz16_1 := blk_frozen BK178.out 1))
     go_meet
     case rel => exact ⟨_, (((l2.length : Int) != (wrap64 ((l0_1.length : Int) / 2)))), (by first | rfl | (simp; done) | (simp [*]; done)), H', ⟨by first | omega | exact Nat.le_refl _⟩, ⟨by (with_reducible repeat (first | refine blk_drewN ?_ _ | refine blk_drew ?_ | refine blk_alloc ?_ _)); exact BK178.out⟩, ⟨by repeat (first | (with_reducible first | exact HB.out | apply below_alloc | apply pw_below_drewN | apply below_drew1 | refine below_set ?_ GE178.out) | exact HB.out)⟩⟩
   ·replace c9 := Bool.eq_false_iff.mpr c9
    subst c9
    have H1 : (spec_VoltageValid.j0 k a1 l2 true) = some r := by rw [if_neg (show ¬ (false = true) by decide)] at H; exact H
    clear H
    have H := H1
    clear H1
    have H' := Aside0.mk H
    clear H
    have hcz17_0 : w5.cell? ⟨gb178, 0, none⟩ = some (.slice A0_0 l0_0.length c0_0) := (blk_cell BK178.out 0).trans rfl
    have hcz17_1 : w5.cell? ⟨gb178, 1, none⟩ = some (.slice A0_1 l0_1.length c0_1) := (blk_cell BK178.out 1).trans rfl
    have hfz17_0 := blk_frozen BK178.out 0
    have hfz17_1 := blk_frozen BK178.out 1
    go_wp2_with (first | ((with_reducible refine gate_callee (f := 56) rfl ?_); refine goesL_ (some 9) rfl rfl Try.func56 (by kernel_rfl) rfl #[.agg #[.slice A0_0 l0_0.length c0_0, .slice A0_1 l0_1.length c0_1]] rfl (by (try simp only [List.map_toArray, List.map_cons, List.map_nil]); first | done | rfl | (simp only [List.length_drop, List.length_take]; rfl)) ?_; (with_reducible refine (spec_MapValid.calls k _ _ l0_0 _ _ l0_1 true _ ?side1 ?side2 ?side3 ?side4 A6.out).mono ?_); (case side1 => repeat (first | exact (Kd.C_below HR0_0.out HB.out) | (with_reducible refine Kd.C_alloc ?_ _))); (case side2 => exact HC0_0.out); (case side3 => repeat (first | exact (Kd.C_below HR0_1.out HB.out) | (with_reducible refine Kd.C_alloc ?_ _))); (case side4 => exact HC0_1.out); rintro e w18 ⟨rfl, hb⟩; refine ⟨_, rfl, ?_⟩; have n0_ := Aside0.mk (blk_below (g := gb178) (o := .cells #[.slice A0_0 l0_0.length c0_0, .slice A0_1 l0_1.length c0_1] 29 (0, 0)) (by (with_reducible repeat refine blk_alloc ?_ _); exact BK178.out) hb); have n1_ := Aside0.mk (below_step (by repeat (first | (with_reducible first | exact HB.out | apply below_alloc | apply pw_below_drewN | apply below_drew1 | refine below_set ?_ GE178.out) | exact HB.out)) hb); clear BK178; clear HB; have BK178 := n0_; have HB := n1_; clear n0_ n1_; (try clear hb); (try clear hb2); (try clear hk); (try clear hi)) | (go_at_call 57; (with_reducible refine (spec_l6In.calls a1 1 6 false _ A8.out).mono ?_); rintro e w' ⟨rfl, ⟨nd, rfl⟩⟩))
    go_meet
    case rel => exact ⟨_, (true), (by first | rfl | (simp; done) | (simp [*]; done)), H', ⟨by first | omega | exact Nat.le_refl _⟩, ⟨by (with_reducible repeat (first | refine blk_drewN ?_ _ | refine blk_drew ?_ | refine blk_alloc ?_ _)); exact BK178.out⟩, ⟨by repeat (first | (with_reducible first | exact HB.out | apply below_alloc | apply pw_below_drewN | apply below_drew1 | refine below_set ?_ GE178.out) | exact HB.out)⟩⟩
  ·replace c7 := Bool.eq_false_iff.mpr c7
   subst c7
   have H1 : (spec_VoltageValid.j0 k a1 l2 true) = some r := by rw [if_neg (show ¬ (false = true) by decide)] at H; exact H
   clear H
   have H := H1
   clear H1
   have H' := Aside0.mk H
   clear H
   have hcz19_0 : w5.cell? ⟨gb178, 0, none⟩ = some (.slice A0_0 l0_0.length c0_0) := (blk_cell BK178.out 0).trans rfl
   have hcz19_1 : w5.cell? ⟨gb178, 1, none⟩ = some (.slice A0_1 l0_1.length c0_1) := (blk_cell BK178.out 1).trans rfl
   have hfz19_0 := blk_frozen BK178.out 0
   have hfz19_1 := blk_frozen BK178.out 1
   go_wp2_with (first | ((with_reducible refine gate_callee (f := 56) rfl ?_); refine goesL_ (some 9) rfl rfl Try.func56 (by kernel_rfl) rfl #[.agg #[.slice A0_0 l0_0.length c0_0, .slice A0_1 l0_1.length c0_1]] rfl (by (try simp only [List.map_toArray, List.map_cons, List.map_nil]); first | done | rfl | (simp only [List.length_drop, List.length_take]; rfl)) ?_; (with_reducible refine (spec_MapValid.calls k _ _ l0_0 _ _ l0_1 false _ ?side1 ?side2 ?side3 ?side4 A6.out).mono ?_); (case side1 => repeat (first | exact (Kd.C_below HR0_0.out HB.out) | (with_reducible refine Kd.C_alloc ?_ _))); (case side2 => exact HC0_0.out); (case side3 => repeat (first | exact (Kd.C_below HR0_1.out HB.out) | (with_reducible refine Kd.C_alloc ?_ _))); (case side4 => exact HC0_1.out); rintro e w20 ⟨rfl, hb⟩; refine ⟨_, rfl, ?_⟩; have n0_ := Aside0.mk (blk_below (g := gb178) (o := .cells #[.slice A0_0 l0_0.length c0_0, .slice A0_1 l0_1.length c0_1] 29 (0, 0)) (by (with_reducible repeat refine blk_alloc ?_ _); exact BK178.out) hb); have n1_ := Aside0.mk (below_step (by repeat (first | (with_reducible first | exact HB.out | apply below_alloc | apply pw_below_drewN | apply below_drew1 | refine below_set ?_ GE178.out) | exact HB.out)) hb); clear BK178; clear HB; have BK178 := n0_; have HB := n1_; clear n0_ n1_; (try clear hb); (try clear hb2); (try clear hk); (try clear hi)))
   go_meet
   case rel => exact ⟨_, (true), (by first | rfl | (simp; done) | (simp [*]; done)), H', ⟨by first | omega | exact Nat.le_refl _⟩, ⟨by (with_reducible repeat (first | refine blk_drewN ?_ _ | refine blk_drew ?_ | refine blk_alloc ?_ _)); exact BK178.out⟩, ⟨by repeat (first | (with_reducible first | exact HB.out | apply below_alloc | apply pw_below_drewN | apply below_drew1 | refine below_set ?_ GE178.out) | exact HB.out)⟩⟩
 case rest =>
  clear HC4
  try clear c1
  try clear c2
  try clear p2
  try clear c5
  try clear p6
  try clear c7
  try clear c9
  try clear c10
  try clear c10b0
  try clear c17
  try clear hcz11_0
  try clear hcz11_1
  try clear hcz13_0
  try clear hcz13_1
  try clear hcz14_0
  try clear hcz14_1
  try clear hcz16_0
  try clear hcz16_1
  try clear hcz17_0
  try clear hcz17_1
  try clear hcz19_0
  try clear hcz19_1
  try clear hfz11_0
  try clear hfz11_1
  try clear hfz13_0
  try clear hfz13_1
  try clear hfz14_0
  try clear hfz14_1
  try clear hfz16_0
  try clear hfz16_1
  try clear hfz17_0
  try clear hfz17_1
  try clear hfz19_0
  try clear hfz19_1
  obtain ⟨kq, x32_3, rfl, HA, HJ3, BK178, HB⟩ := hcut
  cases kq with
  | zero => exact absurd HA.out (by simp [spec_VoltageValid.j0])
  | succ kj3 =>
   have H := HA.out
   clear HA
   simp only [spec_VoltageValid.j0] at H
   by_cases c21 : x32_3 = true
   ·subst c21
    have H1 : (some false) = some r := by rw [if_pos rfl] at H; exact H
    clear H
    have H := H1
    clear H1
    obtain rfl := Option.some.inj H
    go_wp2
    go_ret
    exact ⟨by first | rfl | (simp [errW_none, errW_some] <;> rfl) | (simp [*, errW_none, errW_some] <;> rfl), by repeat (first | (with_reducible first | exact HB.out | apply below_alloc | apply pw_below_drewN | apply below_drew1 | refine below_set ?_ GE178.out) | exact HB.out)⟩
   ·replace c21 := Bool.eq_false_iff.mpr c21
    subst c21
    have H1 : (spec_VoltageValid.l0 kj3 a1 l2 0) = some r := by rw [if_neg (show ¬ (false = true) by decide)] at H; exact H
    clear H
    have H := H1
    clear H1
    have H' := Aside0.mk H
    clear H
    go_wp2
    go_loopg [7] kj3 (fun kq v7 w' => ∃ (x7_2 : Int), v7 = .int .i64 x7_2 ∧ Aside0 (spec_VoltageValid.l0 kq a1 l2 x7_2 = some r) ∧ Aside0 (kq ≤ kj3) ∧ Aside0 (w'.heap[gb178]? = some (.cells #[(.slice A0_0 l0_0.length c0_0), (.slice A0_1 l0_1.length c0_1)] 29 (0, 0))) ∧ Aside0 (Below w.heap.size w w'))
    case atStart => exact ⟨(0), (by first | rfl | (simp; done) | (simp [*]; done)), H', ⟨Nat.le_refl _⟩, ⟨by (with_reducible repeat (first | refine blk_drewN ?_ _ | refine blk_drew ?_ | refine blk_alloc ?_ _)); exact BK178.out⟩, ⟨by repeat (first | (with_reducible first | exact HB.out | apply below_alloc | apply pw_below_drewN | apply below_drew1 | refine below_set ?_ GE178.out) | exact HB.out)⟩⟩
    case round =>
     clear H'
     try clear c1
     try clear c2
     try clear p2
     try clear c5
     try clear p6
     try clear c7
     try clear c9
     try clear c10
     try clear c10b0
     try clear c17
     try clear c21
     try clear hcz11_0
     try clear hcz11_1
     try clear hcz13_0
     try clear hcz13_1
     try clear hcz14_0
     try clear hcz14_1
     try clear hcz16_0
     try clear hcz16_1
     try clear hcz17_0
     try clear hcz17_1
     try clear hcz19_0
     try clear hcz19_1
     try clear hfz11_0
     try clear hfz11_1
     try clear hfz13_0
     try clear hfz13_1
     try clear hfz14_0
     try clear hfz14_1
     try clear hfz16_0
     try clear hfz16_1
     try clear hfz17_0
     try clear hfz17_1
     try clear hfz19_0
     try clear hfz19_1
     try clear p2
     try clear p6
     obtain ⟨x7_2, rfl, HA, HK2, BK178, HB⟩ := hrel
     cases gk with
     | zero => exact absurd HA.out (by simp [spec_VoltageValid.l0])
     | succ k2 =>
      have H := HA.out
      clear HA
      simp only [spec_VoltageValid.l0] at H
      by_cases c22 : x7_2 < (l2.length : Int)
      ·rw [if_pos c22] at H
       have c22b0 : decide (x7_2 < (l2.length : Int)) = true := decide_eq_true c22
       clear c22
       by_cases c23 : 0 ≤ x7_2
       ·rw [if_pos c23] at H
        have c23b0 : decide (0 ≤ x7_2) = true := decide_eq_true c23
        clear c23
        replace H := Option.bind_eq_some_iff.mp H
        obtain ⟨t182, A240, H⟩ := H
        replace H : (if t182 = true then (if ((rd_L1 l2 x7_2).length : Int) = a1 then (spec_VoltageValid.l0 k2 a1 l2 (wrap64 (x7_2 + 1))) else (some false)) else (some false)) = some r := H
        have A24 := Aside0.mk A240
        clear A240
        by_cases c25 : t182 = true
        ·subst c25
         have H1 : (if ((rd_L1 l2 x7_2).length : Int) = a1 then (spec_VoltageValid.l0 k2 a1 l2 (wrap64 (x7_2 + 1))) else (some false)) = some r := by rw [if_pos rfl] at H; exact H
         clear H
         have H := H1
         clear H1
         by_cases c26 : ((rd_L1 l2 x7_2).length : Int) = a1
         ·rw [if_pos c26] at H
          have c26b0 : (((rd_L1 l2 x7_2).length : Int) == a1) = true := beq_iff_eq.mpr c26
          have c26b1 : (((rd_L1 l2 x7_2).length : Int) != a1) = false := bne_eq_false_iff_eq.mpr c26
          clear c26
          have H' := Aside0.mk H
          clear H
          have p181 : 0 ≤ (x7_2 : Int) := of_decide_eq_true (by first | (with_reducible assumption) | assumption)
          have q181 : x7_2 < (l2.length : Int) := of_decide_eq_true (by first | (with_reducible assumption) | assumption)
          obtain ⟨ad181, A181_0, c181_0, e181, hx181_0, hl181_0, hi181_0⟩ := at_L1 HR2.out x7_2 p181 q181
          cases e181
          replace hx181_0 := (HB.out.cell (World.block_lt_of_cell? w _ hx181_0)).trans hx181_0
          have HR181_0 := Aside0.mk hi181_0
          have HC181_0 := Aside0.mk hl181_0
          clear hi181_0 hl181_0
          replace p181 := eq_true p181
          replace q181 := eq_true q181
          go_wp2_with (first | ((with_reducible refine gate_callee (f := 58) rfl ?_); refine goesL_ (some 43) rfl rfl Try.func58 (by kernel_rfl) rfl #[.slice A181_0 (rd_L1 l2 x7_2).length c181_0] rfl (by (try simp only [List.map_toArray, List.map_cons, List.map_nil]); first | done | rfl | (simp only [List.length_drop, List.length_take]; rfl)) ?_; (with_reducible refine (spec_PermValid.calls k2 _ _ (rd_L1 l2 x7_2) true _ ?side1 ?side2 A24.out).mono ?_); (case side1 => repeat (first | exact (Kd.C_below HR181_0.out HB.out) | (with_reducible refine Kd.C_alloc ?_ _))); (case side2 => exact HC181_0.out); rintro e w' ⟨rfl, ⟨nd, rfl⟩⟩; refine ⟨_, rfl, ?_⟩; have p183 : 0 ≤ (x7_2 : Int) := of_decide_eq_true (by first | (with_reducible assumption) | assumption); have q183 : x7_2 < (l2.length : Int) := of_decide_eq_true (by first | (with_reducible assumption) | assumption); obtain ⟨ad183, A183_0, c183_0, e183, hx183_0, hl183_0, hi183_0⟩ := at_L1 HR2.out x7_2 p183 q183; obtain rfl : ad181 = ad183 := (by injection e183); replace hx183_0 := (HB.out.cell (World.block_lt_of_cell? w _ hx183_0)).trans hx183_0; have HR183_0 := Aside0.mk hi183_0; have HC183_0 := Aside0.mk hl183_0; clear hi183_0 hl183_0; replace p183 := eq_true p183; replace q183 := eq_true q183; have ea_ := Option.some.inj (hx181_0.symm.trans hx183_0); injection ea_ with ea_ en_ ec_; subst ea_; subst ec_; clear en_))
          go_roundg k2
          case measure => have := HJ3.out; have := HK2.out; omega
          case rel => exact ⟨(wrap64 (x7_2 + 1)), (by first | rfl | (simp; done) | (simp [*]; done)), H', ⟨by have := HJ3.out; have := HK2.out; omega⟩, ⟨by (with_reducible repeat (first | refine blk_drewN ?_ _ | refine blk_drew ?_ | refine blk_alloc ?_ _)); exact BK178.out⟩, ⟨by repeat (first | (with_reducible first | exact HB.out | apply below_alloc | apply pw_below_drewN | apply below_drew1 | refine below_set ?_ GE178.out) | exact HB.out)⟩⟩
         ·rw [if_neg c26] at H
          have c26b0 : (((rd_L1 l2 x7_2).length : Int) == a1) = false := beq_eq_false_iff_ne.mpr c26
          have c26b1 : (((rd_L1 l2 x7_2).length : Int) != a1) = true := bne_iff_ne.mpr c26
          obtain rfl := Option.some.inj H
          have p181 : 0 ≤ (x7_2 : Int) := of_decide_eq_true (by first | (with_reducible assumption) | assumption)
          have q181 : x7_2 < (l2.length : Int) := of_decide_eq_true (by first | (with_reducible assumption) | assumption)
          obtain ⟨ad181, A181_0, c181_0, e181, hx181_0, hl181_0, hi181_0⟩ := at_L1 HR2.out x7_2 p181 q181
          cases e181
          replace hx181_0 := (HB.out.cell (World.block_lt_of_cell? w _ hx181_0)).trans hx181_0
          have HR181_0 := Aside0.mk hi181_0
          have HC181_0 := Aside0.mk hl181_0
          clear hi181_0 hl181_0
          replace p181 := eq_true p181
          replace q181 := eq_true q181
          go_wp2_with (first | ((with_reducible refine gate_callee (f := 58) rfl ?_); refine goesL_ (some 43) rfl rfl Try.func58 (by kernel_rfl) rfl #[.slice A181_0 (rd_L1 l2 x7_2).length c181_0] rfl (by (try simp only [List.map_toArray, List.map_cons, List.map_nil]); first | done | rfl | (simp only [List.length_drop, List.length_take]; rfl)) ?_; (with_reducible refine (spec_PermValid.calls k2 _ _ (rd_L1 l2 x7_2) true _ ?side1 ?side2 A24.out).mono ?_); (case side1 => repeat (first | exact (Kd.C_below HR181_0.out HB.out) | (with_reducible refine Kd.C_alloc ?_ _))); (case side2 => exact HC181_0.out); rintro e w' ⟨rfl, ⟨nd, rfl⟩⟩; refine ⟨_, rfl, ?_⟩; have p183 : 0 ≤ (x7_2 : Int) := of_decide_eq_true (by first | (with_reducible assumption) | assumption); have q183 : x7_2 < (l2.length : Int) := of_decide_eq_true (by first | (with_reducible assumption) | assumption); obtain ⟨ad183, A183_0, c183_0, e183, hx183_0, hl183_0, hi183_0⟩ := at_L1 HR2.out x7_2 p183 q183; obtain rfl : ad181 = ad183 := (by injection e183); replace hx183_0 := (HB.out.cell (World.block_lt_of_cell? w _ hx183_0)).trans hx183_0; have HR183_0 := Aside0.mk hi183_0; have HC183_0 := Aside0.mk hl183_0; clear hi183_0 hl183_0; replace p183 := eq_true p183; replace q183 := eq_true q183; have ea_ := Option.some.inj (hx181_0.symm.trans hx183_0); injection ea_ with ea_ en_ ec_; subst ea_; subst ec_; clear en_))
          go_ret
          exact ⟨by first | rfl | (simp [errW_none, errW_some] <;> rfl) | (simp [*, errW_none, errW_some] <;> rfl), by repeat (first | (with_reducible first | exact HB.out | apply below_alloc | apply pw_below_drewN | apply below_drew1 | refine below_set ?_ GE178.out) | exact HB.out)⟩
        ·replace c25 := Bool.eq_false_iff.mpr c25
         subst c25
         have H1 : (some false) = some r := by rw [if_neg (show ¬ (false = true) by decide)] at H; exact H
         clear H
         have H := H1
         clear H1
         obtain rfl := Option.some.inj H
         have p181 : 0 ≤ (x7_2 : Int) := of_decide_eq_true (by first | (with_reducible assumption) | assumption)
         have q181 : x7_2 < (l2.length : Int) := of_decide_eq_true (by first | (with_reducible assumption) | assumption)
         obtain ⟨ad181, A181_0, c181_0, e181, hx181_0, hl181_0, hi181_0⟩ := at_L1 HR2.out x7_2 p181 q181
         cases e181
         replace hx181_0 := (HB.out.cell (World.block_lt_of_cell? w _ hx181_0)).trans hx181_0
         have HR181_0 := Aside0.mk hi181_0
         have HC181_0 := Aside0.mk hl181_0
         clear hi181_0 hl181_0
         replace p181 := eq_true p181
         replace q181 := eq_true q181
         go_wp2_with (first | ((with_reducible refine gate_callee (f := 58) rfl ?_); refine goesL_ (some 43) rfl rfl Try.func58 (by kernel_rfl) rfl #[.slice A181_0 (rd_L1 l2 x7_2).length c181_0] rfl (by (try simp only [List.map_toArray, List.map_cons, List.map_nil]); first | done | rfl | (simp only [List.length_drop, List.length_take]; rfl)) ?_; (with_reducible refine (spec_PermValid.calls k2 _ _ (rd_L1 l2 x7_2) false _ ?side1 ?side2 A24.out).mono ?_); (case side1 => repeat (first | exact (Kd.C_below HR181_0.out HB.out) | (with_reducible refine Kd.C_alloc ?_ _))); (case side2 => exact HC181_0.out); rintro e w' ⟨rfl, ⟨nd, rfl⟩⟩; refine ⟨_, rfl, ?_⟩))
         go_ret
         exact ⟨by first | rfl | (simp [errW_none, errW_some] <;> rfl) | (simp [*, errW_none, errW_some] <;> rfl), by repeat (first | (with_reducible first | exact HB.out | apply below_alloc | apply pw_below_drewN | apply below_drew1 | refine below_set ?_ GE178.out) | exact HB.out)⟩
       ·rw [if_neg c23] at H
        exact absurd H (by simp)
      ·rw [if_neg c22] at H
       have c22b0 : decide (x7_2 < (l2.length : Int)) = false := decide_eq_false c22
       clear c22
       obtain rfl := Option.some.inj H
       go_wp2
       go_ret
       exact ⟨by first | rfl | (simp [errW_none, errW_some] <;> rfl) | (simp [*, errW_none, errW_some] <;> rfl), by repeat (first | (with_reducible first | exact HB.out | apply below_alloc | apply pw_below_drewN | apply below_drew1 | refine below_set ?_ GE178.out) | exact HB.out)⟩

/-! ### spec_CoverShift: function 28 -/
mutual
def spec_CoverShift.j0 : Nat → Int → List Int → List Int → Bool → List Int → List Int → Option (List Int × Bool)
  | 0, _, _, _, _, _, _ => none
  | k + 1, x1, x3, x10, x29, x185000, x185001 => if x29 = true then (some (x10, false)) else (spec_CoverShift.l0 k x1 x3 x10 0 x185000 x185001)
def spec_CoverShift.l0 : Nat → Int → List Int → List Int → Int → List Int → List Int → Option (List Int × Bool)
  | 0, _, _, _, _, _, _ => none
  | k + 1, x1, x3, x10, x11, x185000, x185001 => if x11 < (x185000.length : Int) then (spec_CoverShift.l1 k x1 x3 x10 x11 0 x185000 x185001) else (some (x10, true))
def spec_CoverShift.l1 : Nat → Int → List Int → List Int → Int → Int → List Int → List Int → Option (List Int × Bool)
  | 0, _, _, _, _, _, _, _ => none
  | k + 1, x1, x3, x10, x11, x12, x185000, x185001 => if x12 < x1 then (if 0 ≤ x12 then (if x12 < (x3.length : Int) then (if x10.length < 17592186044416 then (spec_CoverShift.l1 k x1 x3 (x10 ++ [wrap64 ((wrap64 (x1 * x11)) + (rd x3 x12))]) x11 (wrap64 (x12 + 1)) x185000 x185001) else (none)) else (none)) else (none)) else (spec_CoverShift.l0 k x1 x3 x10 (wrap64 (x11 + 1)) x185000 x185001)
end
def spec_CoverShift.f (k : Nat) (l0_0 : List Int) (l0_1 : List Int) (a1 : Int) (l2 : List (List Int)) (l3 : List Int) : Option (List Int × Bool) := (some (([] : List Int) : List Int)).bind fun y185 => ((spec_VoltageValid.f k l0_0 l0_1 a1 l2).bind fun t188 => (if t188 = true then ((spec_PermValid.f k l3).bind fun t189 => (if t189 = true then (spec_CoverShift.j0 k a1 l3 y185 ((l3.length : Int) != a1) l0_0 l0_1) else (spec_CoverShift.j0 k a1 l3 y185 true l0_0 l0_1))) else (spec_CoverShift.j0 k a1 l3 y185 true l0_0 l0_1)))
set_option maxHeartbeats 8000000 in
set_option maxRecDepth 100000 in
theorem spec_CoverShift.calls (k : Nat) (A0_0 : Option Addr) (c0_0 : Nat) (l0_0 : List Int) (A0_1 : Option Addr) (c0_1 : Nat) (l0_1 : List Int) (a1 : Int) (A2 : Option Addr) (c2 : Nat) (l2 : List (List Int)) (A3 : Option Addr) (c3 : Nat) (l3 : List Int) (r1 : List Int) (r2 : Bool) (w : World) (hr0_0 : Kd.C (Kd.int .i64) w A0_0 l0_0.length l0_0) (hc0_0 : l0_0.length ≤ c0_0) (hr0_1 : Kd.C (Kd.int .i64) w A0_1 l0_1.length l0_1) (hc0_1 : l0_1.length ≤ c0_1) (hr2 : Kd.C (Kd.slice 3 (Kd.int .i64)) w A2 l2.length l2) (hc2 : l2.length ≤ c2) (hr3 : Kd.C (Kd.int .i64) w A3 l3.length l3) (hc3 : l3.length ≤ c3) (h : spec_CoverShift.f k l0_0 l0_1 a1 l2 l3 = some (r1, r2)) :
    Calls Try.prog 28 #[.agg #[.slice A0_0 l0_0.length c0_0, .slice A0_1 l0_1.length c0_1], .int .i64 a1, .slice A2 l2.length c2, .slice A3 l3.length c3] w fun e w' => ∃ v0_ : Value, e = .returned (.tuple #[v0_, .bool r2]) ∧ Kd.R (Kd.int .i64) 3 w' w.heap.size (fun _ => True) v0_ r1 ∧ Below w.heap.size w w' := by
 have hu29 := Try.underlying29
 have HR0_0 := Aside0.mk hr0_0
 have HC0_0 := Aside0.mk hc0_0
 clear hr0_0 hc0_0
 have HR0_1 := Aside0.mk hr0_1
 have HC0_1 := Aside0.mk hc0_1
 clear hr0_1 hc0_1
 have HR2 := Aside0.mk hr2
 have HC2 := Aside0.mk hc2
 clear hr2 hc2
 have HR3 := Aside0.mk hr3
 have HC3 := Aside0.mk hc3
 clear hr3 hc3
 have HB := Aside0.mk (Below.refl w.heap.size w)
 have H : ((some (([] : List Int) : List Int)).bind fun y185 => ((spec_VoltageValid.f k l0_0 l0_1 a1 l2).bind fun t188 => (if t188 = true then ((spec_PermValid.f k l3).bind fun t189 => (if t189 = true then (spec_CoverShift.j0 k a1 l3 y185 ((l3.length : Int) != a1) l0_0 l0_1) else (spec_CoverShift.j0 k a1 l3 y185 true l0_0 l0_1))) else (spec_CoverShift.j0 k a1 l3 y185 true l0_0 l0_1)))) = some (r1, r2) := h
 clear h
 obtain ⟨y185, hy185⟩ : ∃ y_ : List Int, y_ = (([] : List Int)) := ⟨_, rfl⟩
 replace H : ((spec_VoltageValid.f k l0_0 l0_1 a1 l2).bind fun t188 => (if t188 = true then ((spec_PermValid.f k l3).bind fun t189 => (if t189 = true then (spec_CoverShift.j0 k a1 l3 y185 ((l3.length : Int) != a1) l0_0 l0_1) else (spec_CoverShift.j0 k a1 l3 y185 true l0_0 l0_1))) else (spec_CoverShift.j0 k a1 l3 y185 true l0_0 l0_1))) = some (r1, r2) := by first | (rw [hy185]; with_reducible exact H) | (have H2_ := (Option.bind_some _ _).symm.trans H; rw [hy185]; with_reducible exact H2_) | (have H2_ := (Option.bind_some _ _).symm.trans H; with_reducible exact H2_) | with_reducible exact H | (rw [hy185]; exact H) | exact H
 have Ny185 := Aside0.mk hy185
 clear hy185
 have HC5 := Aside0.mk H
 clear H
 go_enter Try.func28, Try.ntmps28
 go_upto_region 2 with (first | ((with_reducible refine gate_dst (N := 4) rfl ?_); refine box_event ?hg (N := 4) ?hd (cs := #[.slice A0_0 l0_0.length c0_0, .slice A0_1 l0_1.length c0_1]) (t := 29) ?hr ?_; (case hd => rfl); (case hg => rfl); (case hr => first | (go_simp; done) | (go_simp; rfl)); intro gb184 hg w6 hbox hb; have n0_ := Aside0.mk (below_step (by repeat (first | (with_reducible first | exact HB.out | apply below_alloc | apply pw_below_drewN | apply below_drew1) | exact HB.out)) hb); have n1_ := Aside0.mk (hbox); have n2_ := Aside0.mk ((by rw [hg]; exact (below_size (by repeat (first | (with_reducible first | exact HB.out | apply below_alloc | apply pw_below_drewN | apply below_drew1) | exact HB.out))) : w.heap.size ≤ gb184)); have n3_ := Aside0.mk ((by rw [hg]; exact (below_size (by repeat (first | (with_reducible first | exact HB.out | apply below_alloc | apply pw_below_drewN | apply below_drew1) | exact HB.out))) : w.heap.size ≤ gb184)); clear HB; have HB := n0_; have BK184 := n1_; have GW184 := n2_; have GE184 := n3_; clear n0_ n1_ n2_ n3_; clear hb hbox hg) | ((with_reducible refine gate_dst (N := 13) rfl ?_); refine Kd.R_lit (Kd.int .i64) _ 3 ?hg (N := 13) ?hd (xs := ([] : List Int)) (inner := []) (ok := fun _ => True) (okp := fun _ => True) ?hr ?hp (fun _ hk => hk) trivial (Below.refl _ _) (Nat.le_refl _) (by simp) ?_; (case hd => rfl); (case hg => rfl); (case hr => first | (go_simp; done) | (go_simp; rfl)); (case hp => exact (Reps.none _ _)); intro v186 w7 ho8 hb hg_ hnew_; clear hg_ hnew_; (first | rw [← Ny185.out] at ho8 | (simp only [Int.reduceToNat] at ho8; rw [← Ny185.out] at ho8)); have n0_ := Aside0.mk (Kd.R_lower ho8 (below_size (by repeat (first | (with_reducible first | exact HB.out | apply below_alloc | apply pw_below_drewN | apply below_drew1 | refine below_set ?_ GE184.out) | exact HB.out)))); have n1_ := Aside0.mk (blk_below (g := gb184) (o := .cells #[.slice A0_0 l0_0.length c0_0, .slice A0_1 l0_1.length c0_1] 29 (0, 0)) (by (with_reducible repeat refine blk_alloc ?_ _); exact BK184.out) hb); have n2_ := Aside0.mk (below_step (by repeat (first | (with_reducible first | exact HB.out | apply below_alloc | apply pw_below_drewN | apply below_drew1 | refine below_set ?_ GE184.out) | exact HB.out)) hb); clear BK184; clear HB; have HO187 := n0_; have BK184 := n1_; have HB := n2_; clear n0_ n1_ n2_; clear hb ho8))
 (try simp only [Act.put, List.setIfInBounds_toArray, List.set_cons_zero, List.set_cons_succ])
 go_cut [29] (fun v29 wc => ∃ (kq : Nat) (x29_4 : Bool), v29 = .bool x29_4 ∧ Aside0 (spec_CoverShift.j0 kq a1 l3 y185 x29_4 l0_0 l0_1 = some (r1, r2)) ∧ Aside0 (kq ≤ k) ∧ Aside0 (Kd.R (Kd.int .i64) 3 wc w.heap.size (fun _ => True) v186 y185) ∧ Aside0 (wc.heap[gb184]? = some (.cells #[(.slice A0_0 l0_0.length c0_0), (.slice A0_1 l0_1.length c0_1)] 29 (0, 0))) ∧ Aside0 (Below w.heap.size w wc))
 case first =>
  have H := HC5.out
  clear HC5
  replace H := Option.bind_eq_some_iff.mp H
  obtain ⟨t188, A90, H⟩ := H
  replace H : (if t188 = true then ((spec_PermValid.f k l3).bind fun t189 => (if t189 = true then (spec_CoverShift.j0 k a1 l3 y185 ((l3.length : Int) != a1) l0_0 l0_1) else (spec_CoverShift.j0 k a1 l3 y185 true l0_0 l0_1))) else (spec_CoverShift.j0 k a1 l3 y185 true l0_0 l0_1)) = some (r1, r2) := H
  have A9 := Aside0.mk A90
  clear A90
  by_cases c10 : t188 = true
  ·subst c10
   have H1 : ((spec_PermValid.f k l3).bind fun t189 => (if t189 = true then (spec_CoverShift.j0 k a1 l3 y185 ((l3.length : Int) != a1) l0_0 l0_1) else (spec_CoverShift.j0 k a1 l3 y185 true l0_0 l0_1))) = some (r1, r2) := by rw [if_pos rfl] at H; exact H
   clear H
   have H := H1
   clear H1
   replace H := Option.bind_eq_some_iff.mp H
   obtain ⟨t189, A110, H⟩ := H
   replace H : (if t189 = true then (spec_CoverShift.j0 k a1 l3 y185 ((l3.length : Int) != a1) l0_0 l0_1) else (spec_CoverShift.j0 k a1 l3 y185 true l0_0 l0_1)) = some (r1, r2) := H
   have A11 := Aside0.mk A110
   clear A110
   by_cases c12 : t189 = true
   ·subst c12
    have H1 : (spec_CoverShift.j0 k a1 l3 y185 ((l3.length : Int) != a1) l0_0 l0_1) = some (r1, r2) := by rw [if_pos rfl] at H; exact H
    clear H
    have H := H1
    clear H1
    have H' := Aside0.mk H
    clear H
    have hcz13_0 : w7.cell? ⟨gb184, 0, none⟩ = some (.slice A0_0 l0_0.length c0_0) := (blk_cell BK184.out 0).trans rfl
    have hcz13_1 : w7.cell? ⟨gb184, 1, none⟩ = some (.slice A0_1 l0_1.length c0_1) := (blk_cell BK184.out 1).trans rfl
    have hfz13_0 := blk_frozen BK184.out 0
    have hfz13_1 := blk_frozen BK184.out 1
    go_wp2_with (first | ((with_reducible refine gate_callee (f := 17) rfl ?_); refine goesL_ (some 17) rfl rfl Try.func17 (by kernel_rfl) rfl #[.agg #[.slice A0_0 l0_0.length c0_0, .slice A0_1 l0_1.length c0_1], .int .i64 a1, .slice A2 l2.length c2] rfl (by (try simp only [List.map_toArray, List.map_cons, List.map_nil]); first | done | rfl | (simp only [List.length_drop, List.length_take]; rfl)) ?_; (with_reducible refine (spec_VoltageValid.calls k _ _ l0_0 _ _ l0_1 a1 _ _ l2 true _ ?side1 ?side2 ?side3 ?side4 ?side5 ?side6 A9.out).mono ?_); (case side1 => repeat (first | exact (Kd.C_below HR0_0.out HB.out) | (with_reducible refine Kd.C_alloc ?_ _))); (case side2 => exact HC0_0.out); (case side3 => repeat (first | exact (Kd.C_below HR0_1.out HB.out) | (with_reducible refine Kd.C_alloc ?_ _))); (case side4 => exact HC0_1.out); (case side5 => repeat (first | exact (Kd.C_below HR2.out HB.out) | (with_reducible refine Kd.C_alloc ?_ _))); (case side6 => exact HC2.out); rintro e w14 ⟨rfl, hb⟩; refine ⟨_, rfl, ?_⟩; have n0_ := Aside0.mk (Kd.R_below (by (with_reducible repeat apply Kd.R_alloc); exact HO187.out) hb); have n1_ := Aside0.mk (blk_below (g := gb184) (o := .cells #[.slice A0_0 l0_0.length c0_0, .slice A0_1 l0_1.length c0_1] 29 (0, 0)) (by (with_reducible repeat refine blk_alloc ?_ _); exact BK184.out) hb); have n2_ := Aside0.mk (below_step (by repeat (first | (with_reducible first | exact HB.out | apply below_alloc | apply pw_below_drewN | apply below_drew1 | refine below_set ?_ GE184.out) | exact HB.out)) hb); clear HO187; clear BK184; clear HB; have HO187 := n0_; have BK184 := n1_; have HB := n2_; clear n0_ n1_ n2_; (try clear hb); (try clear hb2); (try clear hk); (try clear hi)) | (go_at_call 58; (with_reducible refine (spec_PermValid.calls k _ _ l3 true _ ?side1 ?side2 A11.out).mono ?_); (case side1 => repeat (first | exact (Kd.C_below HR3.out HB.out) | (with_reducible refine Kd.C_alloc ?_ _))); (case side2 => exact HC3.out); rintro e w' ⟨rfl, ⟨nd, rfl⟩⟩))
    go_meet
    case rel => exact ⟨_, (((l3.length : Int) != a1)), (by first | rfl | (simp; done) | (simp [*]; done)), H', ⟨by first | omega | exact Nat.le_refl _⟩, ⟨by (with_reducible repeat (first | apply Kd.R_alloc | apply Kd.R_drewN | apply Kd.R_drew)); exact HO187.out⟩, ⟨by (with_reducible repeat (first | refine blk_drewN ?_ _ | refine blk_drew ?_ | refine blk_alloc ?_ _)); exact BK184.out⟩, ⟨by repeat (first | (with_reducible first | exact HB.out | apply below_alloc | apply pw_below_drewN | apply below_drew1 | refine below_set ?_ GE184.out) | exact HB.out)⟩⟩
   ·replace c12 := Bool.eq_false_iff.mpr c12
    subst c12
    have H1 : (spec_CoverShift.j0 k a1 l3 y185 true l0_0 l0_1) = some (r1, r2) := by rw [if_neg (show ¬ (false = true) by decide)] at H; exact H
    clear H
    have H := H1
    clear H1
    have H' := Aside0.mk H
    clear H
    have hcz15_0 : w7.cell? ⟨gb184, 0, none⟩ = some (.slice A0_0 l0_0.length c0_0) := (blk_cell BK184.out 0).trans rfl
    have hcz15_1 : w7.cell? ⟨gb184, 1, none⟩ = some (.slice A0_1 l0_1.length c0_1) := (blk_cell BK184.out 1).trans rfl
    have hfz15_0 := blk_frozen BK184.out 0
    have hfz15_1 := blk_frozen BK184.out 1
    go_wp2_with (first | ((with_reducible refine gate_callee (f := 17) rfl ?_); refine goesL_ (some 17) rfl rfl Try.func17 (by kernel_rfl) rfl #[.agg #[.slice A0_0 l0_0.length c0_0, .slice A0_1 l0_1.length c0_1], .int .i64 a1, .slice A2 l2.length c2] rfl (by (try simp only [List.map_toArray, List.map_cons, List.map_nil]); first | done | rfl | (simp only [List.length_drop, List.length_take]; rfl)) ?_; (with_reducible refine (spec_VoltageValid.calls k _ _ l0_0 _ _ l0_1 a1 _ _ l2 true _ ?side1 ?side2 ?side3 ?side4 ?side5 ?side6 A9.out).mono ?_); (case side1 => repeat (first | exact (Kd.C_below HR0_0.out HB.out) | (with_reducible refine Kd.C_alloc ?_ _))); (case side2 => exact HC0_0.out); (case side3 => repeat (first | exact (Kd.C_below HR0_1.out HB.out) | (with_reducible refine Kd.C_alloc ?_ _))); (case side4 => exact HC0_1.out); (case side5 => repeat (first | exact (Kd.C_below HR2.out HB.out) | (with_reducible refine Kd.C_alloc ?_ _))); (case side6 => exact HC2.out); rintro e w16 ⟨rfl, hb⟩; refine ⟨_, rfl, ?_⟩; have n0_ := Aside0.mk (Kd.R_below (by (with_reducible repeat apply Kd.R_alloc); exact HO187.out) hb); have n1_ := Aside0.mk (blk_below (g := gb184) (o := .cells #[.slice A0_0 l0_0.length c0_0, .slice A0_1 l0_1.length c0_1] 29 (0, 0)) (by (with_reducible repeat refine blk_alloc ?_ _); exact BK184.out) hb); have n2_ := Aside0.mk (below_step (by repeat (first | (with_reducible first | exact HB.out | apply below_alloc | apply pw_below_drewN | apply below_drew1 | refine below_set ?_ GE184.out) | exact HB.out)) hb); clear HO187; clear BK184; clear HB; have HO187 := n0_; have BK184 := n1_; have HB := n2_; clear n0_ n1_ n2_; (try clear hb); (try clear hb2); (try clear hk); (try clear hi)) | (go_at_call 58; (with_reducible refine (spec_PermValid.calls k _ _ l3 false _ ?side1 ?side2 A11.out).mono ?_); (case side1 => repeat (first | exact (Kd.C_below HR3.out HB.out) | (with_reducible refine Kd.C_alloc ?_ _))); (case side2 => exact HC3.out); rintro e w' ⟨rfl, ⟨nd, rfl⟩⟩))
    go_meet
    case rel => exact ⟨_, (true), (by first | rfl | (simp; done) | (simp [*]; done)), H', ⟨by first | omega | exact Nat.le_refl _⟩, ⟨by (with_reducible repeat (first | apply Kd.R_alloc | apply Kd.R_drewN | apply Kd.R_drew)); exact HO187.out⟩, ⟨by (with_reducible repeat (first | refine blk_drewN ?_ _ | refine blk_drew ?_ | refine blk_alloc ?_ _)); exact BK184.out⟩, ⟨by repeat (first | (with_reducible first | exact HB.out | apply below_alloc | apply pw_below_drewN | apply below_drew1 | refine below_set ?_ GE184.out) | exact HB.out)⟩⟩
  ·replace c10 := Bool.eq_false_iff.mpr c10
   subst c10
   have H1 : (spec_CoverShift.j0 k a1 l3 y185 true l0_0 l0_1) = some (r1, r2) := by rw [if_neg (show ¬ (false = true) by decide)] at H; exact H
   clear H
   have H := H1
   clear H1
   have H' := Aside0.mk H
   clear H
   have hcz17_0 : w7.cell? ⟨gb184, 0, none⟩ = some (.slice A0_0 l0_0.length c0_0) := (blk_cell BK184.out 0).trans rfl
   have hcz17_1 : w7.cell? ⟨gb184, 1, none⟩ = some (.slice A0_1 l0_1.length c0_1) := (blk_cell BK184.out 1).trans rfl
   have hfz17_0 := blk_frozen BK184.out 0
   have hfz17_1 := blk_frozen BK184.out 1
   go_wp2_with (first | ((with_reducible refine gate_callee (f := 17) rfl ?_); refine goesL_ (some 17) rfl rfl Try.func17 (by kernel_rfl) rfl #[.agg #[.slice A0_0 l0_0.length c0_0, .slice A0_1 l0_1.length c0_1], .int .i64 a1, .slice A2 l2.length c2] rfl (by (try simp only [List.map_toArray, List.map_cons, List.map_nil]); first | done | rfl | (simp only [List.length_drop, List.length_take]; rfl)) ?_; (with_reducible refine (spec_VoltageValid.calls k _ _ l0_0 _ _ l0_1 a1 _ _ l2 false _ ?side1 ?side2 ?side3 ?side4 ?side5 ?side6 A9.out).mono ?_); (case side1 => repeat (first | exact (Kd.C_below HR0_0.out HB.out) | (with_reducible refine Kd.C_alloc ?_ _))); (case side2 => exact HC0_0.out); (case side3 => repeat (first | exact (Kd.C_below HR0_1.out HB.out) | (with_reducible refine Kd.C_alloc ?_ _))); (case side4 => exact HC0_1.out); (case side5 => repeat (first | exact (Kd.C_below HR2.out HB.out) | (with_reducible refine Kd.C_alloc ?_ _))); (case side6 => exact HC2.out); rintro e w18 ⟨rfl, hb⟩; refine ⟨_, rfl, ?_⟩; have n0_ := Aside0.mk (Kd.R_below (by (with_reducible repeat apply Kd.R_alloc); exact HO187.out) hb); have n1_ := Aside0.mk (blk_below (g := gb184) (o := .cells #[.slice A0_0 l0_0.length c0_0, .slice A0_1 l0_1.length c0_1] 29 (0, 0)) (by (with_reducible repeat refine blk_alloc ?_ _); exact BK184.out) hb); have n2_ := Aside0.mk (below_step (by repeat (first | (with_reducible first | exact HB.out | apply below_alloc | apply pw_below_drewN | apply below_drew1 | refine below_set ?_ GE184.out) | exact HB.out)) hb); clear HO187; clear BK184; clear HB; have HO187 := n0_; have BK184 := n1_; have HB := n2_; clear n0_ n1_ n2_; (try clear hb); (try clear hb2); (try clear hk); (try clear hi)))
   go_meet
   case rel => exact ⟨_, (true), (by first | rfl | (simp; done) | (simp [*]; done)), H', ⟨by first | omega | exact Nat.le_refl _⟩, ⟨by (with_reducible repeat (first | apply Kd.R_alloc | apply Kd.R_drewN | apply Kd.R_drew)); exact HO187.out⟩, ⟨by (with_reducible repeat (first | refine blk_drewN ?_ _ | refine blk_drew ?_ | refine blk_alloc ?_ _)); exact BK184.out⟩, ⟨by repeat (first | (with_reducible first | exact HB.out | apply below_alloc | apply pw_below_drewN | apply below_drew1 | refine below_set ?_ GE184.out) | exact HB.out)⟩⟩
 case rest =>
  clear HC5
  try clear c1
  try clear c2
  try clear p2
  try clear c3
  try clear c10
  try clear c12
  try clear c17
  try clear hcz13_0
  try clear hcz13_1
  try clear hcz15_0
  try clear hcz15_1
  try clear hcz17_0
  try clear hcz17_1
  try clear hfz13_0
  try clear hfz13_1
  try clear hfz15_0
  try clear hfz15_1
  try clear hfz17_0
  try clear hfz17_1
  obtain ⟨kq, x29_4, rfl, HA, HJ4, HO_10, BK184, HB⟩ := hcut
  cases kq with
  | zero => exact absurd HA.out (by simp [spec_CoverShift.j0])
  | succ kj4 =>
   have H := HA.out
   clear HA
   simp only [spec_CoverShift.j0] at H
   by_cases c19 : x29_4 = true
   ·subst c19
    have H1 : (some (y185, false)) = some (r1, r2) := by rw [if_pos rfl] at H; exact H
    clear H
    have H := H1
    clear H1
    simp only [Option.some.injEq, Prod.mk.injEq] at H
    obtain ⟨rfl, rfl⟩ := H
    go_wp2
    go_ret2
    exact ⟨_, by first | rfl | (simp [errW_none, errW_some] <;> rfl) | (simp [*, errW_none, errW_some] <;> rfl), by (with_reducible repeat (first | apply Kd.R_alloc | apply Kd.R_drewN | apply Kd.R_drew)); exact HO_10.out, by repeat (first | (with_reducible first | exact HB.out | apply below_alloc | apply pw_below_drewN | apply below_drew1 | refine below_set ?_ GE184.out) | exact HB.out)⟩
   ·replace c19 := Bool.eq_false_iff.mpr c19
    subst c19
    have H1 : (spec_CoverShift.l0 kj4 a1 l3 y185 0 l0_0 l0_1) = some (r1, r2) := by rw [if_neg (show ¬ (false = true) by decide)] at H; exact H
    clear H
    have H := H1
    clear H1
    have H' := Aside0.mk H
    clear H
    go_wp2
    go_loopg [10, 11] kj4 (fun kq v10 v11 w' => ∃ (x10_2 : List Int) (x11_2 : Int), v11 = .int .i64 x11_2 ∧ Aside0 (spec_CoverShift.l0 kq a1 l3 x10_2 x11_2 l0_0 l0_1 = some (r1, r2)) ∧ Aside0 (kq ≤ kj4) ∧ Aside0 (Kd.R (Kd.int .i64) 3 w' w.heap.size (fun _ => True) v10 x10_2) ∧ Aside0 (w'.heap[gb184]? = some (.cells #[(.slice A0_0 l0_0.length c0_0), (.slice A0_1 l0_1.length c0_1)] 29 (0, 0))) ∧ Aside0 (Below w.heap.size w w'))
    case atStart => exact ⟨(y185), (0), (by first | rfl | (simp; done) | (simp [*]; done)), H', ⟨Nat.le_refl _⟩, ⟨by (with_reducible repeat (first | apply Kd.R_alloc | apply Kd.R_drewN | apply Kd.R_drew)); exact HO_10.out⟩, ⟨by (with_reducible repeat (first | refine blk_drewN ?_ _ | refine blk_drew ?_ | refine blk_alloc ?_ _)); exact BK184.out⟩, ⟨by repeat (first | (with_reducible first | exact HB.out | apply below_alloc | apply pw_below_drewN | apply below_drew1 | refine below_set ?_ GE184.out) | exact HB.out)⟩⟩
    case round =>
     clear H'
     try clear c1
     try clear c2
     try clear p2
     try clear c3
     try clear c10
     try clear c12
     try clear c17
     try clear c19
     try clear hcz13_0
     try clear hcz13_1
     try clear hcz15_0
     try clear hcz15_1
     try clear hcz17_0
     try clear hcz17_1
     try clear hfz13_0
     try clear hfz13_1
     try clear hfz15_0
     try clear hfz15_1
     try clear hfz17_0
     try clear hfz17_1
     try clear p2
     obtain ⟨x10_2, x11_2, rfl, HA, HK2, HO_10, BK184, HB⟩ := hrel
     cases gk with
     | zero => exact absurd HA.out (by simp [spec_CoverShift.l0])
     | succ k2 =>
      have H := HA.out
      clear HA
      simp only [spec_CoverShift.l0] at H
      by_cases c20 : x11_2 < (l0_0.length : Int)
      ·rw [if_pos c20] at H
       have c20b0 : decide (x11_2 < (l0_0.length : Int)) = true := decide_eq_true c20
       clear c20
       have H' := Aside0.mk H
       clear H
       have hcz21_0 : wr.cell? ⟨gb184, 0, none⟩ = some (.slice A0_0 l0_0.length c0_0) := (blk_cell BK184.out 0).trans rfl
       have hcz21_1 : wr.cell? ⟨gb184, 1, none⟩ = some (.slice A0_1 l0_1.length c0_1) := (blk_cell BK184.out 1).trans rfl
       have hfz21_0 := blk_frozen BK184.out 0
       have hfz21_1 := blk_frozen BK184.out 1
       go_wp2
       go_loopg [10, 12] k2 (fun kq v10 v12 w' => ∃ (x10_3 : List Int) (x12_3 : Int), v12 = .int .i64 x12_3 ∧ Aside0 (spec_CoverShift.l1 kq a1 l3 x10_3 x11_2 x12_3 l0_0 l0_1 = some (r1, r2)) ∧ Aside0 (kq ≤ k2) ∧ Aside0 (Kd.R (Kd.int .i64) 3 w' w.heap.size (fun _ => True) v10 x10_3) ∧ Aside0 (w'.heap[gb184]? = some (.cells #[(.slice A0_0 l0_0.length c0_0), (.slice A0_1 l0_1.length c0_1)] 29 (0, 0))) ∧ Aside0 (Below w.heap.size w w'))
       case atStart => exact ⟨(x10_2), (0), (by first | rfl | (simp; done) | (simp [*]; done)), H', ⟨Nat.le_refl _⟩, ⟨by (with_reducible repeat (first | apply Kd.R_alloc | apply Kd.R_drewN | apply Kd.R_drew)); exact HO_10.out⟩, ⟨by (with_reducible repeat (first | refine blk_drewN ?_ _ | refine blk_drew ?_ | refine blk_alloc ?_ _)); exact BK184.out⟩, ⟨by repeat (first | (with_reducible first | exact HB.out | apply below_alloc | apply pw_below_drewN | apply below_drew1 | refine below_set ?_ GE184.out) | exact HB.out)⟩⟩
       case round =>
        clear H'
        try clear c1
        try clear c2
        try clear p2
        try clear c3
        try clear c10
        try clear c12
        try clear c17
        try clear c19
        try clear c20
        try clear c20b0
        try clear hcz13_0
        try clear hcz13_1
        try clear hcz15_0
        try clear hcz15_1
        try clear hcz17_0
        try clear hcz17_1
        try clear hcz21_0
        try clear hcz21_1
        try clear hfz13_0
        try clear hfz13_1
        try clear hfz15_0
        try clear hfz15_1
        try clear hfz17_0
        try clear hfz17_1
        try clear hfz21_0
        try clear hfz21_1
        try clear p2
        obtain ⟨x10_3, x12_3, rfl, HA, HK3, HO_10, BK184, HB⟩ := hrel
        cases gk with
        | zero => exact absurd HA.out (by simp [spec_CoverShift.l1])
        | succ k3 =>
         have H := HA.out
         clear HA
         simp only [spec_CoverShift.l1] at H
         by_cases c22 : x12_3 < a1
         ·rw [if_pos c22] at H
          have c22b0 : decide (x12_3 < a1) = true := decide_eq_true c22
          clear c22
          by_cases c23 : 0 ≤ x12_3
          ·rw [if_pos c23] at H
           have c23b0 : decide (0 ≤ x12_3) = true := decide_eq_true c23
           clear c23
           by_cases c24 : x12_3 < (l3.length : Int)
           ·rw [if_pos c24] at H
            have c24b0 : decide (x12_3 < (l3.length : Int)) = true := decide_eq_true c24
            clear c24
            by_cases c25 : x10_3.length < 17592186044416
            ·rw [if_pos c25] at H
             have LMc25 := Aside0.mk c25
             clear c25
             obtain ⟨y191, hy191⟩ : ∃ y_ : List Int, y_ = (x10_3 ++ [wrap64 ((wrap64 (a1 * x11_2)) + (rd l3 x12_3))]) := ⟨_, rfl⟩
             replace H : (spec_CoverShift.l1 k3 a1 l3 y191 x11_2 (wrap64 (x12_3 + 1)) l0_0 l0_1) = some (r1, r2) := by first | (rw [hy191]; with_reducible exact H) | (have H2_ := (Option.bind_some _ _).symm.trans H; rw [hy191]; with_reducible exact H2_) | (have H2_ := (Option.bind_some _ _).symm.trans H; with_reducible exact H2_) | with_reducible exact H | (rw [hy191]; exact H) | exact H
             have Ny191 := Aside0.mk hy191
             clear hy191
             have H' := Aside0.mk H
             clear H
             have p190 : 0 ≤ (x12_3 : Int) := of_decide_eq_true (by first | (with_reducible assumption) | assumption)
             have q190 : x12_3 < (l3.length : Int) := of_decide_eq_true (by first | (with_reducible assumption) | assumption)
             obtain ⟨ad190, e190, hx190_0⟩ := Kd.at_int HR3.out x12_3 p190 q190
             cases e190
             replace hx190_0 := (HB.out.cell (World.block_lt_of_cell? w _ hx190_0)).trans hx190_0
             replace p190 := eq_true p190
             replace q190 := eq_true q190
             go_wp2_with (first | ((with_reducible refine gate_builtin (b := .append) (xs := #[.tmp 43, .tmp 52]) rfl ?_); at_builtin; refine Kd.R_append (Kd.int .i64) (w0 := w) w.heap.size rfl (.tmp 43) (.tmp 52) 22 3 (.int .i64 0) 8 rfl Try.underlying22 info3 rfl (by decide) (by omega) u10 x10_3 (wrap64 ((wrap64 (a1 * x11_2)) + (rd l3 x12_3))) [.int .i64 (wrap64 ((wrap64 (a1 * x11_2)) + (rd l3 x12_3)))] (fun _ => True) (fun _ => False) rfl rfl ?aP (fun _ hk => hk.elim) ?aF ?aO ?aB ?aS ?aL ?_; (case aP => exact rfl); (case aB => exact (by repeat (first | (with_reducible first | exact HB.out | apply below_alloc | apply pw_below_drewN | apply below_drew1 | refine below_set ?_ GE184.out) | exact HB.out))); (case aF => exact (fun _ _ => trivial)); (case aO => exact (by (with_reducible repeat apply Kd.R_alloc); exact HO_10.out)); (case aS => exact (below_size (by repeat (first | (with_reducible first | exact HB.out | apply below_alloc | apply pw_below_drewN | apply below_drew1 | refine below_set ?_ GE184.out) | exact HB.out)))); (case aL => have := LMc25.out; omega); intro v192 w26 ho hb hg hat; rw [← Ny191.out] at ho; have n0_ := Aside0.mk (blk_grown (g := gb184) (o := .cells #[.slice A0_0 l0_0.length c0_0, .slice A0_1 l0_1.length c0_1] 29 (0, 0)) (by (with_reducible repeat refine blk_alloc ?_ _); exact BK184.out) hg (Kd.R_ne HO_10.out BK184.out (by decide))); have n1_ := Aside0.mk (hb); have n2_ := Aside0.mk (ho); clear BK184; clear HB; clear HO_10; have BK184 := n0_; have HB := n1_; have HO193 := n2_; clear n0_ n1_ n2_; clear ho hb hg hat))
             go_roundg k3
             case measure => have := HJ4.out; have := HK2.out; have := HK3.out; omega
             case rel => exact ⟨(y191), (wrap64 (x12_3 + 1)), (by first | rfl | (simp; done) | (simp [*]; done)), H', ⟨by have := HJ4.out; have := HK2.out; have := HK3.out; omega⟩, ⟨by (with_reducible repeat (first | apply Kd.R_alloc | apply Kd.R_drewN | apply Kd.R_drew)); exact HO193.out⟩, ⟨by (with_reducible repeat (first | refine blk_drewN ?_ _ | refine blk_drew ?_ | refine blk_alloc ?_ _)); exact BK184.out⟩, ⟨by repeat (first | (with_reducible first | exact HB.out | apply below_alloc | apply pw_below_drewN | apply below_drew1 | refine below_set ?_ GE184.out) | exact HB.out)⟩⟩
            ·rw [if_neg c25] at H
             exact absurd H (by simp)
           ·rw [if_neg c24] at H
            exact absurd H (by simp)
          ·rw [if_neg c23] at H
           exact absurd H (by simp)
         ·rw [if_neg c22] at H
          have c22b0 : decide (x12_3 < a1) = false := decide_eq_false c22
          clear c22
          have H' := Aside0.mk H
          clear H
          go_wp2
          go_roundg k3
          case measure => have := HJ4.out; have := HK2.out; have := HK3.out; omega
          case rel => exact ⟨(x10_3), (wrap64 (x11_2 + 1)), (by first | rfl | (simp; done) | (simp [*]; done)), H', ⟨by have := HJ4.out; have := HK2.out; have := HK3.out; omega⟩, ⟨by (with_reducible repeat (first | apply Kd.R_alloc | apply Kd.R_drewN | apply Kd.R_drew)); exact HO_10.out⟩, ⟨by (with_reducible repeat (first | refine blk_drewN ?_ _ | refine blk_drew ?_ | refine blk_alloc ?_ _)); exact BK184.out⟩, ⟨by repeat (first | (with_reducible first | exact HB.out | apply below_alloc | apply pw_below_drewN | apply below_drew1 | refine below_set ?_ GE184.out) | exact HB.out)⟩⟩
      ·rw [if_neg c20] at H
       have c20b0 : decide (x11_2 < (l0_0.length : Int)) = false := decide_eq_false c20
       clear c20
       simp only [Option.some.injEq, Prod.mk.injEq] at H
       obtain ⟨rfl, rfl⟩ := H
       have hcz27_0 : wr.cell? ⟨gb184, 0, none⟩ = some (.slice A0_0 l0_0.length c0_0) := (blk_cell BK184.out 0).trans rfl
       have hcz27_1 : wr.cell? ⟨gb184, 1, none⟩ = some (.slice A0_1 l0_1.length c0_1) := (blk_cell BK184.out 1).trans rfl
       have hfz27_0 := blk_frozen BK184.out 0
       have hfz27_1 := blk_frozen BK184.out 1
       go_wp2
       go_ret2
       exact ⟨_, by first | rfl | (simp [errW_none, errW_some] <;> rfl) | (simp [*, errW_none, errW_some] <;> rfl), by (with_reducible repeat (first | apply Kd.R_alloc | apply Kd.R_drewN | apply Kd.R_drew)); exact HO_10.out, by repeat (first | (with_reducible first | exact HB.out | apply below_alloc | apply pw_below_drewN | apply below_drew1 | refine below_set ?_ GE184.out) | exact HB.out)⟩

/-! ### impl_PermValid: function 60 -/
def impl_PermValid.fine (l : List Int) (i : Nat) : Prop := ∀ j : Nat, j < i → (0 ≤ rd l (j : Int) ∧ rd l (j : Int) < l.length) ∧ ∀ k : Nat, k < j → rd l (k : Int) ≠ rd l (j : Int)
instance (l : List Int) (i : Nat) : Decidable (impl_PermValid.fine l i) := by unfold impl_PermValid.fine; infer_instance
def impl_PermValid.met (l : List Int) (i : Nat) (x : Nat) : Bool := (List.range i).any (fun j => decide (rd l (j : Int) = (x : Int)))
def impl_PermValid.cells (l : List Int) (i : Nat) : Array Value := ((List.range 12).map (fun x => Value.bool (impl_PermValid.met l i x))).toArray
def impl_PermValid.val (l : List Int) : Bool := decide ((1 ≤ l.length ∧ l.length ≤ 12) ∧ impl_PermValid.fine l l.length)
def impl_PermValid.f (l0 : List Int) : Option Bool := some (impl_PermValid.val l0)
theorem impl_PermValid.met_succ (l : List Int) (i x : Nat) : impl_PermValid.met l (i + 1) x = (impl_PermValid.met l i x || decide (rd l (i : Int) = (x : Int))) := by
  unfold impl_PermValid.met; rw [List.range_succ, List.any_append]; simp
theorem impl_PermValid.met_iff {l : List Int} {i x : Nat} : impl_PermValid.met l i x = true ↔ ∃ k : Nat, k < i ∧ rd l (k : Int) = (x : Int) := by
  unfold impl_PermValid.met
  rw [List.any_eq_true]
  constructor
  · rintro ⟨k, hk, h⟩; exact ⟨k, List.mem_range.1 hk, of_decide_eq_true h⟩
  · rintro ⟨k, hk, h⟩; exact ⟨k, List.mem_range.2 hk, decide_eq_true h⟩
theorem impl_PermValid.cells_get (l : List Int) (i : Nat) (x : Nat) (h : x < 12) : (impl_PermValid.cells l i)[x]? = some (.bool (impl_PermValid.met l i x)) := by
  unfold impl_PermValid.cells; simp [h]
theorem impl_PermValid.cells_set (l : List Int) (i : Nat) (n : Int) (h0 : 0 ≤ n) (h : n < 12) (hn : rd l (i : Int) = n) : (impl_PermValid.cells l i).setIfInBounds n.toNat (.bool true) = impl_PermValid.cells l (i + 1) := by
  apply Array.ext_getElem?
  intro q
  by_cases hq : q < 12
  · rw [impl_PermValid.cells_get l (i + 1) q hq, impl_PermValid.met_succ, hn, Array.getElem?_setIfInBounds]
    by_cases e : n.toNat = q
    · rw [if_pos e, if_pos (by simp [impl_PermValid.cells]; omega), decide_eq_true (by omega), Bool.or_true]
    · rw [if_neg e, impl_PermValid.cells_get l i q hq, decide_eq_false (by omega), Bool.or_false]
  · have h1 : ∀ i, (impl_PermValid.cells l i).size = 12 := fun i => by simp [impl_PermValid.cells]
    rw [Array.getElem?_eq_none (by rw [Array.size_setIfInBounds, h1]; omega), Array.getElem?_eq_none (by rw [h1]; omega)]
theorem impl_PermValid.val_bad (l : List Int) (i : Int) (h0 : 0 ≤ i) (h1 : i < l.length) (h : ¬ (0 ≤ rd l i ∧ rd l i < l.length ∧ ∀ k : Nat, (k : Int) < i → rd l (k : Int) ≠ rd l i)) : impl_PermValid.val l = false := by
  unfold impl_PermValid.val
  refine decide_eq_false (fun ⟨_, hf⟩ => h ?_)
  have := hf i.toNat (by omega)
  rw [Int.toNat_of_nonneg h0] at this
  exact ⟨this.1.1, this.1.2, fun k hk => this.2 k (by omega)⟩
set_option maxHeartbeats 8000000 in
set_option maxRecDepth 100000 in
theorem impl_PermValid.wv_long (A0 : Option Addr) (c0 : Nat) (l0 : List Int) (w : World) (hr0 : Kd.C (Kd.int .i64) w A0 l0.length l0) (hc0 : l0.length ≤ c0) (hl1 : 1 ≤ l0.length) (hl2 : l0.length ≤ 12) :
    Calls Try.prog 60 #[.slice A0 l0.length c0] w fun e w' => e = .returned (.bool (impl_PermValid.val l0)) ∧ Below w.heap.size w w' := by
    have HR0 := Aside0.mk hr0
    have HC0 := Aside0.mk hc0
    clear hr0 hc0
    have b0 : decide ((l0.length : Int) < 1) = false := decide_eq_false (by omega)
    have b1 : decide (12 < (l0.length : Int)) = false := decide_eq_false (by omega)
    have HL := Aside0.mk (And.intro hl1 hl2)
    clear hl1 hl2
    have HN : Aside0 (∀ i, (impl_PermValid.cells l0 i).size = 12) := ⟨fun i => by simp [impl_PermValid.cells]⟩
    have HZ : Aside0 (impl_PermValid.cells l0 0 = #[.bool false, .bool false, .bool false, .bool false, .bool false, .bool false, .bool false, .bool false, .bool false, .bool false, .bool false, .bool false]) := ⟨rfl⟩
    go_enter Try.func60, Try.ntmps60
    go_wp2
    go_loopw [17] (fun v17 wr => ∃ (i : Int), v17 = .int .i64 i ∧ Aside0 (0 ≤ i ∧ i ≤ (l0.length : Int)) ∧ Aside0 (impl_PermValid.fine l0 i.toNat) ∧ (∃ m, wr = (w.alloc (.cells (impl_PermValid.cells l0 i.toNat) 82)).drewN m)) (fun i _ => l0.length - (intOf i).toNat)
    case atStart => exact ⟨0, rfl, ⟨by omega⟩, ⟨fun j hj => absurd hj (Nat.not_lt_zero j)⟩, 0, by rw [show (0 : Int).toNat = 0 from rfl, HZ.out]; rfl⟩
    case round =>
      obtain ⟨i, rfl, HI, HF, m, rfl⟩ := hrel
      clear b0 b1
      have HB : Aside0 (Below w.heap.size w ((w.alloc (.cells (impl_PermValid.cells l0 i.toNat) 82)).drewN m)) := ⟨by exact pw_below_drewN ((Below.refl _ _).alloc (Nat.le_refl _) _) _⟩
      by_cases hlt : i < (l0.length : Int)
      · have hc : decide (i < (l0.length : Int)) = true := decide_eq_true hlt
        obtain ⟨ad', e1, hx⟩ := Kd.at_int HR0.out i HI.out.1 hlt
        cases e1
        replace hx := (HB.out.cell (World.block_lt_of_cell? w _ hx)).trans hx
        have p1 := eq_true HI.out.1
        have p2 := eq_true hlt
        have HT := Aside0.mk hlt
        clear hlt
        obtain ⟨n, hn⟩ : ∃ n, n = rd l0 i := ⟨_, rfl⟩
        rw [← hn] at hx
        have HNN := Aside0.mk hn
        clear hn
        by_cases c1 : n < 0
        · have d1 : decide (n < 0) = true := decide_eq_true c1
          clear c1
          have HV : Aside0 (impl_PermValid.val l0 = false) := ⟨impl_PermValid.val_bad l0 i HI.out.1 HT.out (fun h => by have := HNN.out; have := of_decide_eq_true d1; have := h.1; omega)⟩
          go_wp2
          go_ret
          exact ⟨by rw [HV.out]; rfl, HB.out⟩
        · have d1 : decide (n < 0) = false := decide_eq_false c1
          by_cases c2 : n ≥ (l0.length : Int)
          · have d2 : decide ((l0.length : Int) ≤ n) = true := decide_eq_true c2
            clear c1 c2
            have HV : Aside0 (impl_PermValid.val l0 = false) := ⟨impl_PermValid.val_bad l0 i HI.out.1 HT.out (fun h => by have := HNN.out; have := of_decide_eq_true d2; have := h.2.1; omega)⟩
            go_wp2
            go_ret
            exact ⟨by rw [HV.out]; rfl, HB.out⟩
          · have d2 : decide ((l0.length : Int) ≤ n) = false := decide_eq_false c2
            have q1 := eq_true (show 0 ≤ n by omega)
            have q2 := eq_true (show n < 12 by have := HL.out; omega)
            have HQ := Aside0.mk (show 0 ≤ n ∧ n < 12 by have := HL.out; omega)
            clear c1 c2
            obtain ⟨b, hb⟩ : ∃ b, b = impl_PermValid.met l0 i.toNat n.toNat := ⟨_, rfl⟩
            have HBB := Aside0.mk hb
            clear hb
            have hy : ((w.alloc (.cells (impl_PermValid.cells l0 i.toNat) 82)).drewN m).cell? ⟨w.heap.size, n.toNat, none⟩ = some (.bool b) := by
              rw [HBB.out]
              have hc_ := impl_PermValid.cells_get l0 i.toNat n.toNat (by have := HQ.out; omega)
              show World.cell? (w.alloc (.cells (impl_PermValid.cells l0 i.toNat) 82)) ⟨w.heap.size, n.toNat, none⟩ = _
              simp only [World.cell?, World.alloc, Array.getElem?_push_size, Option.isSome_none]
              exact hc_
            cases b with
            | true =>
              have HV : Aside0 (impl_PermValid.val l0 = false) := ⟨impl_PermValid.val_bad l0 i HI.out.1 HT.out (fun h => by
                obtain ⟨k, hk, e⟩ := impl_PermValid.met_iff.1 HBB.out.symm
                have := HQ.out
                have := HNN.out
                exact h.2.2 k (by omega) (by omega))⟩
              go_wp2
              go_ret
              exact ⟨by rw [HV.out]; rfl, HB.out⟩
            | false =>
              have HI2 := Aside0.mk (show (i + 1).toNat = i.toNat + 1 by have := HI.out; omega)
              have HW := Aside0.mk (show wrap64 (i + 1) = i + 1 by have := HI.out; have := HL.out; have := HT.out; unfold wrap64; omega)
              have HF2 : Aside0 (impl_PermValid.fine l0 (i.toNat + 1)) := ⟨fun j hj => by
                by_cases e : j = i.toNat
                · subst e
                  rw [Int.toNat_of_nonneg HI.out.1, ← HNN.out]
                  refine ⟨⟨HQ.out.1, by have := of_decide_eq_false d2; omega⟩, fun k hk e => ?_⟩
                  have := HBB.out
                  rw [impl_PermValid.met_iff.2 ⟨k, hk, by rw [e]; have := HQ.out; omega⟩] at this
                  cases this
                · exact HF.out j (by omega)⟩
              have HS := Aside0.mk (impl_PermValid.cells_set l0 i.toNat n HQ.out.1 HQ.out.2 (by rw [Int.toNat_of_nonneg HI.out.1, HNN.out]))
              go_wp2
              go_roundw
              case rel => exact ⟨i + 1, by rw [HW.out], ⟨by have := HI.out; have := HT.out; omega⟩, ⟨by rw [HI2.out]; exact HF2.out⟩, m, by
                rw [HI2.out, ← HS.out]
                show ((w.alloc (.cells (impl_PermValid.cells l0 i.toNat) 82)).setCell ⟨w.heap.size, n.toNat, none⟩ (.bool true)).drewN m = _
                rw [World.setCell_alloc_at _ _ _ _ _ rfl]⟩
              case measure => simp only [intOf, HW.out]; have := HI.out; have := HT.out; omega
      · have hc : decide (i < (l0.length : Int)) = false := decide_eq_false hlt
        have HV : Aside0 (impl_PermValid.val l0 = true) := ⟨by
          have e : i.toNat = l0.length := by have := HI.out; omega
          have hF := HF.out
          rw [e] at hF
          exact decide_eq_true ⟨HL.out, hF⟩⟩
        clear hlt
        go_wp2
        go_ret
        exact ⟨by rw [HV.out]; rfl, HB.out⟩
theorem impl_PermValid.calls (A0 : Option Addr) (c0 : Nat) (l0 : List Int) (r : Bool) (w : World) (hr0 : Kd.C (Kd.int .i64) w A0 l0.length l0) (hc0 : l0.length ≤ c0) (h : impl_PermValid.f l0 = some r) :
    Calls Try.prog 60 #[.slice A0 l0.length c0] w fun e w' => e = .returned (.bool r) ∧ Below w.heap.size w w' := by
  obtain rfl := Option.some.inj h
  clear h
  by_cases h1 : 1 ≤ l0.length
  · by_cases h2 : l0.length ≤ 12
    · exact impl_PermValid.wv_long A0 c0 l0 w hr0 hc0 h1 h2
    · have HV : Aside0 (impl_PermValid.val l0 = false) := ⟨decide_eq_false (fun k => h2 k.1.2)⟩
      have b0 : decide ((l0.length : Int) < 1) = false := decide_eq_false (by omega)
      have b1 : decide (12 < (l0.length : Int)) = true := decide_eq_true (by omega)
      clear h1 h2 hr0 hc0
      go_enter Try.func60, Try.ntmps60
      go_wp2
      go_ret
      exact ⟨by rw [HV.out]; rfl, (Below.refl _ _).alloc (Nat.le_refl _) _⟩
  · have HV : Aside0 (impl_PermValid.val l0 = false) := ⟨decide_eq_false (fun k => h1 k.1.1)⟩
    have b0 : decide ((l0.length : Int) < 1) = true := decide_eq_true (by omega)
    clear h1 hr0 hc0
    go_enter Try.func60, Try.ntmps60
    go_wp2
    go_ret
    exact ⟨by rw [HV.out]; rfl, (Below.refl _ _).alloc (Nat.le_refl _) _⟩


/-! ### slices_Max_int_int: function 98 -/
def slices_Max_int_int.go (l : List Int) (m : Int) : Nat → Int
  | 0 => m
  | i + 1 => if slices_Max_int_int.go l m i < rd l (i : Int) then rd l (i : Int) else slices_Max_int_int.go l m i
/-- The greatest of the first i numbers; the first one for i = 0. -/
def slices_Max_int_int.up (l : List Int) (i : Nat) : Int := slices_Max_int_int.go l (rd l 0) i
def slices_Max_int_int.f (l0 : List Int) : Option Int := if 0 < l0.length then some (slices_Max_int_int.up l0 l0.length) else none
set_option maxHeartbeats 8000000 in
set_option maxRecDepth 100000 in
theorem slices_Max_int_int.calls (A0 : Option Addr) (c0 : Nat) (l0 : List Int) (r : Int) (w : World) (hr0 : Kd.C (Kd.int .i64) w A0 l0.length l0) (hc0 : l0.length ≤ c0) (h : slices_Max_int_int.f l0 = some r) :
    Calls Try.prog 98 #[.slice A0 l0.length c0] w fun e w' => e = .returned (.int .i64 r) ∧ Drawn0 w w' := by
  unfold slices_Max_int_int.f at h
  by_cases hl : 0 < l0.length
  · rw [if_pos hl] at h
    obtain rfl := Option.some.inj h
    clear h
    have HR0 := Aside0.mk hr0
    have HC0 := Aside0.mk hc0
    clear hr0 hc0
    have b0 : decide (l0.length < 1) = false := decide_eq_false (by omega)
    have b1 : decide ((l0.length : Int) < 1) = false := decide_eq_false (by omega)
    obtain ⟨ad, e0, hx0⟩ := Kd.at_int HR0.out 0 (by omega) (by omega)
    cases e0
    have hx1 : w.cell? ad = some (.int .i64 (rd l0 0)) := by cases ad; exact hx0
    clear hx0
    have p0 : (0 : Int) < (l0.length : Int) := by omega
    have HM := Aside0.mk (show slices_Max_int_int.up l0 1 = rd l0 0 by show (if rd l0 0 < rd l0 ((0 : Nat) : Int) then rd l0 ((0 : Nat) : Int) else rd l0 0) = rd l0 0; split <;> rfl)
    have HL := Aside0.mk hl
    go_enter Try.func98, Try.ntmps98
    go_wp2
    go_loopw [3, 4] (fun v3 v4 wr => ∃ (i : Int), v3 = .int .i64 (slices_Max_int_int.up l0 i.toNat) ∧ v4 = .int .i64 i ∧ Aside0 (1 ≤ i ∧ i ≤ (l0.length : Int)) ∧ Drawn0 w wr) (fun _ i _ => l0.length - (intOf i).toNat)
    case atStart => exact ⟨1, by rw [show (1 : Int).toNat = 1 from rfl, HM.out], rfl, ⟨by have := HL.out; omega⟩, by repeat (first | exact Drawn0.refl _ | apply Drawn0.step)⟩
    case round =>
      obtain ⟨i, rfl, rfl, HI, ⟨m, rfl⟩⟩ := hrel
      clear hx1 p0 b0 b1
      by_cases hlt : i < (l0.length : Int)
      · have hI := HI.out
        have hc : decide (i < (l0.length : Int)) = true := decide_eq_true hlt
        obtain ⟨ad', e1, hx⟩ := Kd.at_int HR0.out i (by omega) hlt
        cases e1
        have p : 0 ≤ i := by omega
        have HS := Aside0.mk (show slices_Max_int_int.up l0 (i + 1).toNat = if slices_Max_int_int.up l0 i.toNat < rd l0 i then rd l0 i else slices_Max_int_int.up l0 i.toNat by
          rw [show (i + 1).toNat = i.toNat + 1 by omega]
          show (if slices_Max_int_int.up l0 i.toNat < rd l0 ((i.toNat : Nat) : Int) then rd l0 ((i.toNat : Nat) : Int) else slices_Max_int_int.up l0 i.toNat) = _
          rw [Int.toNat_of_nonneg p])
        have HT := Aside0.mk hlt
        clear hI
        have p1 := eq_true p
        have p2 := eq_true hlt
        clear p hlt
        have HW := Aside0.mk (show wrap64 (i + 1) = i + 1 by have := HI.out; have := HT.out; have := HR0.out.2.1; unfold wrap64; omega)
        go_wp2
        go_roundw
        case rel => exact ⟨i + 1, by rw [HS.out], by rw [HW.out], ⟨by have := HI.out; have := HT.out; omega⟩, by repeat (first | exact Drawn0.refl _ | apply Drawn0.step)⟩
        case measure => simp only [intOf, HW.out]; have := HI.out; have := HT.out; omega
      · have hc : decide (i < (l0.length : Int)) = false := decide_eq_false hlt
        have HE := Aside0.mk (show i = (l0.length : Int) by have := HI.out; omega)
        clear hlt
        go_wp2
        go_ret
        exact ⟨by rw [HE.out]; rfl, by repeat (first | exact Drawn0.refl _ | apply Drawn0.step)⟩
  · rw [if_neg hl] at h; cases h


end Go.Proofs.Ytmcgkckdnelcdaa.PFnExactCoverShift
