-- Made by a program of this session (wip/tools) out of the loaded program; not trusted: Lean checks it.
import Derived.Test.YtjebcgbmlbemcaaGreatDoorPFnExecuteValuex0
import Derived.Test.YtjebcgbmlbemcaaGreatDoorPFnExecuteValuex7
import Derived.Test.YtjebcgbmlbemcaaGreatDoorPFnExecuteValuex10
import Derived.Test.YtjebcgbmlbemcaaGreatDoorPFnExecuteValuex11
-- packed
namespace Go.Proofs.YtjebcgbmlbemcaaGreatDoor.PFnExecuteValue
open Go.RowKit Go.Proofs.YtjebcgbmlbemcaaGreatDoorW.PrintWords Go.Proofs.YtjebcgbmlbemcaaGreatDoorW.PrintLast Go.Proofs.YtjebcgbmlbemcaaGreatDoorW.PrintMore
attribute [local go_sem] max2_int min2_int max_two min_two max_three min_three max_four min_four   -- for this text's walks alone
set_option linter.unusedVariables false
set_option linter.unusedSimpArgs false

/-! ### spec_l7Sides: function 87 -/
mutual
def spec_l7Sides.l0 : Nat → List Int → List Int → List Int → Int → List (List Int) → Int → List Int → List Int → Option (Int)
  | 0, _, _, _, _, _, _, _, _ => none
  | k + 1, x1, x5, x6, x7, x8, x9, x427000, x427001 => if x9 < (x8.length : Int) then (spec_l7Sides.l1 k x1 x5 x6 x7 x8 x9 0 0 x427000 x427001) else (spec_l7Sides.l2 k x1 x5 x6 x7 0 x427000 x427001)
def spec_l7Sides.l1 : Nat → List Int → List Int → List Int → Int → List (List Int) → Int → Int → Int → List Int → List Int → Option (Int)
  | 0, _, _, _, _, _, _, _, _, _, _ => none
  | k + 1, x1, x5, x6, x7, x8, x9, x10, x11, x427000, x427001 => if 0 ≤ x9 then (if x9 < (x8.length : Int) then (if x11 < ((rd_L1 x8 x9).length : Int) then (if 0 ≤ x11 then (if 0 ≤ (rd (rd_L1 x8 x9) x11) then (if (rd (rd_L1 x8 x9) x11) < (x5.length : Int) then ((spec_l7Has.f k x1 (rd x5 (rd (rd_L1 x8 x9) x11))).bind fun t440 => (if t440 = true then (spec_l7Sides.l1 k x1 x5 x6 x7 x8 x9 (wrap64 (x10 + 1)) (wrap64 (x11 + 1)) x427000 x427001) else (spec_l7Sides.l1 k x1 x5 x6 x7 x8 x9 x10 (wrap64 (x11 + 1)) x427000 x427001))) else (none)) else (none)) else (none)) else (if x10 = 0 then (spec_l7Sides.l0 k x1 x5 x6 (wrap64 (x7 + 1)) x8 (wrap64 (x9 + 1)) x427000 x427001) else (spec_l7Sides.l0 k x1 x5 x6 x7 x8 (wrap64 (x9 + 1)) x427000 x427001))) else (none)) else (none)
def spec_l7Sides.l2 : Nat → List Int → List Int → List Int → Int → Int → List Int → List Int → Option (Int)
  | 0, _, _, _, _, _, _, _ => none
  | k + 1, x1, x5, x6, x7, x12, x427000, x427001 => if x12 < (x6.length : Int) then (if 0 ≤ x12 then (if x12 < (x5.length : Int) then ((spec_l7Has.f k x1 (rd x5 x12)).bind fun t445 => (if t445 = true then (if x12 < (x427001.length : Int) then (if 0 ≤ (rd x427001 x12) then (if (rd x427001 x12) < (x427000.length : Int) then (spec_l7Sides.l3 k x1 x5 x6 x7 x12 (rd x427000 (rd x427001 x12)) x427000 x427001) else (none)) else (none)) else (none)) else (spec_l7Sides.l2 k x1 x5 x6 x7 (wrap64 (x12 + 1)) x427000 x427001))) else (none)) else (none)) else ((spec_l1Cycles.f k x6).bind fun t441 => (some (wrap64 ((wrap64 ((t441.length : Int) - (wrap64 ((x6.length : Int) - (wrap64 (2 * (x1.length : Int))))))) + x7))))
def spec_l7Sides.l3 : Nat → List Int → List Int → List Int → Int → Int → Int → List Int → List Int → Option (Int)
  | 0, _, _, _, _, _, _, _, _ => none
  | k + 1, x1, x5, x6, x7, x12, x13, x427000, x427001 => if 0 ≤ x13 then (if x13 < (x5.length : Int) then ((spec_l7Has.f k x1 (rd x5 x13)).bind fun t449 => (if t449 = true then (if 0 ≤ x12 then (if x12 < (x6.length : Int) then (spec_l7Sides.l2 k x1 x5 (x6.set (x12 : Int).toNat x13) x7 (wrap64 (x12 + 1)) x427000 x427001) else (none)) else (none)) else (if x13 < (x427000.length : Int) then (spec_l7Sides.l3 k x1 x5 x6 x7 x12 (rd x427000 x13) x427000 x427001) else (none)))) else (none)) else (none)
end
def spec_l7Sides.f (k : Nat) (l0_0 : List Int) (l0_1 : List Int) (l1 : List Int) : Option (Int) := (spec_l7Edges.f k l0_0 l0_1).bind fun t427 => ((spec_l1Same.f k (l0_1.length : Int)).bind fun t430 => ((spec_l1Cycles.f k l0_0).bind fun t433 => (spec_l7Sides.l0 k l1 t427 t430 0 t433 0 l0_0 l0_1)))
set_option maxHeartbeats 8000000 in
set_option maxRecDepth 100000 in
theorem spec_l7Sides.calls (k : Nat) (A0_0 : Option Addr) (c0_0 : Nat) (l0_0 : List Int) (A0_1 : Option Addr) (c0_1 : Nat) (l0_1 : List Int) (A1 : Option Addr) (c1 : Nat) (l1 : List Int) (r : Int) (w : World) (hr0_0 : Kd.C (Kd.int .i64) w A0_0 l0_0.length l0_0) (hc0_0 : l0_0.length ≤ c0_0) (hr0_1 : Kd.C (Kd.int .i64) w A0_1 l0_1.length l0_1) (hc0_1 : l0_1.length ≤ c0_1) (hr1 : Kd.C (Kd.int .i64) w A1 l1.length l1) (hc1 : l1.length ≤ c1) (h : spec_l7Sides.f k l0_0 l0_1 l1 = some r) :
    Calls Tryz.prog 87 #[.agg #[.slice A0_0 l0_0.length c0_0, .slice A0_1 l0_1.length c0_1], .slice A1 l1.length c1] w fun e w' => e = .returned (.int .i64 r) ∧ Below w.heap.size w w' := by
 have hu25 := Tryz.underlying25; have HR0_0 := A0_ hr0_0; have HC0_0 := A0_ hc0_0; clear hr0_0 hc0_0; have HR0_1 := A0_ hr0_1; have HC0_1 := A0_ hc0_1; clear hr0_1 hc0_1; have HR1 := A0_ hr1; have HC1 := A0_ hc1; clear hr1 hc1
 have HB := A0_ (Below.refl w.heap.size w)
 have H : ((spec_l7Edges.f k l0_0 l0_1).bind fun t427 => ((spec_l1Same.f k (l0_1.length : Int)).bind fun t430 => ((spec_l1Cycles.f k l0_0).bind fun t433 => (spec_l7Sides.l0 k l1 t427 t430 0 t433 0 l0_0 l0_1)))) = some r := h
 clear h; obtain ⟨t427, A3, H⟩ := zbind H; obtain ⟨t430, A4, H⟩ := zbind H; obtain ⟨t433, A5, H⟩ := zbind H; have H' := A0_ H; clear H
 go_enter Tryz.func87, Tryz.ntmps87
 go_wp2_with (first | ((with_reducible refine gD (N := 2) rfl ?_); refine zX (N := 2) (cs := #[.slice A0_0 l0_0.length c0_0, .slice A0_1 l0_1.length c0_1]) (t := 25) ?_; intro gb426 hg w6 hbox hb; have BK426 := A0_ (hbox); have GW426 := zG hg HB; have GE426 := zG hg HB; replace HB := zB HB hb; clear hb hbox hg; have hcz7_0 := zc0 BK426; have hcz7_1 := zc1 BK426; have hfz7_0 := kF BK426.out 0; have hfz7_1 := kF BK426.out 1) | (go_at_call 94; (with_reducible refine (spec_l7Edges.calls k _ _ l0_0 _ _ l0_1 t427 _ ?side1 ?side2 ?side3 ?side4 A3.out).mono ?_); (case side1 => exact zC HR0_0 HB); (case side2 => exact HC0_0.out); (case side3 => exact zC HR0_1 HB); (case side4 => exact HC0_1.out); rintro e w8 ⟨v428, rfl, ho0, hb⟩; have HO429 := A0_ (rL ho0 (bZ (zB_ HB))); replace BK426 := zK BK426 hb; replace HB := zB HB hb; (try clear hb); (try clear ho0); have hcz9_0 := zc0 BK426; have hcz9_1 := zc1 BK426; have hfz9_0 := kF BK426.out 0; have hfz9_1 := kF BK426.out 1) | (go_at_call 95; (with_reducible refine (spec_l1Same.calls k (l0_1.length : Int) t430 _ A4.out).mono ?_); rintro e w10 ⟨v431, rfl, ho0, hb⟩; have HO432 := A0_ (rL (Kd.R_new' ho0 (rX (zR_ HO429))) (bZ (zB_ HB))); replace HO429 := A0_ (Kd.R_elder' (zR_ HO429) (Kd.R_base ho0) hb); replace BK426 := zK BK426 hb; replace HB := zB HB hb; (try clear hb); (try clear ho0); have hcz11_0 := zc0 BK426; have hcz11_1 := zc1 BK426; have hfz11_0 := kF BK426.out 0; have hfz11_1 := kF BK426.out 1) | (go_at_call 88; (with_reducible refine (spec_l1Cycles.calls k _ _ l0_0 t433 _ ?side1 ?side2 A5.out).mono ?_); (case side1 => exact zC HR0_0 HB); (case side2 => exact HC0_0.out); rintro e w12 ⟨v434, rfl, ho0, hb⟩; have HO435 := A0_ (Kd.S_lower (Kd.S_new' (Kd.S_new' ho0 (rX (zR_ HO429))) (rX (zR_ HO432))) (bZ (zB_ HB))); replace HO429 := zR HO429 hb; replace HO432 := zR HO432 hb; replace BK426 := zK BK426 hb; replace HB := zB HB hb; (try clear hb); (try clear ho0)))
 repeat (go_quiet (first | ((with_reducible refine gD (N := 2) rfl ?_); refine zX (N := 2) (cs := #[.slice A0_0 l0_0.length c0_0, .slice A0_1 l0_1.length c0_1]) (t := 25) ?_; intro gb426 hg w6 hbox hb; have BK426 := A0_ (hbox); have GW426 := zG hg HB; have GE426 := zG hg HB; replace HB := zB HB hb; clear hb hbox hg; have hcz7_0 := zc0 BK426; have hcz7_1 := zc1 BK426; have hfz7_0 := kF BK426.out 0; have hfz7_1 := kF BK426.out 1) | (go_at_call 94; (with_reducible refine (spec_l7Edges.calls k _ _ l0_0 _ _ l0_1 t427 _ ?side1 ?side2 ?side3 ?side4 A3.out).mono ?_); (case side1 => exact zC HR0_0 HB); (case side2 => exact HC0_0.out); (case side3 => exact zC HR0_1 HB); (case side4 => exact HC0_1.out); rintro e w8 ⟨v428, rfl, ho0, hb⟩; have HO429 := A0_ (rL ho0 (bZ (zB_ HB))); replace BK426 := zK BK426 hb; replace HB := zB HB hb; (try clear hb); (try clear ho0); have hcz9_0 := zc0 BK426; have hcz9_1 := zc1 BK426; have hfz9_0 := kF BK426.out 0; have hfz9_1 := kF BK426.out 1) | (go_at_call 95; (with_reducible refine (spec_l1Same.calls k (l0_1.length : Int) t430 _ A4.out).mono ?_); rintro e w10 ⟨v431, rfl, ho0, hb⟩; have HO432 := A0_ (rL (Kd.R_new' ho0 (rX (zR_ HO429))) (bZ (zB_ HB))); replace HO429 := A0_ (Kd.R_elder' (zR_ HO429) (Kd.R_base ho0) hb); replace BK426 := zK BK426 hb; replace HB := zB HB hb; (try clear hb); (try clear ho0); have hcz11_0 := zc0 BK426; have hcz11_1 := zc1 BK426; have hfz11_0 := kF BK426.out 0; have hfz11_1 := kF BK426.out 1) | (go_at_call 88; (with_reducible refine (spec_l1Cycles.calls k _ _ l0_0 t433 _ ?side1 ?side2 A5.out).mono ?_); (case side1 => exact zC HR0_0 HB); (case side2 => exact HC0_0.out); rintro e w12 ⟨v434, rfl, ho0, hb⟩; have HO435 := A0_ (Kd.S_lower (Kd.S_new' (Kd.S_new' ho0 (rX (zR_ HO429))) (rX (zR_ HO432))) (bZ (zB_ HB))); replace HO429 := zR HO429 hb; replace HO432 := zR HO432 hb; replace BK426 := zK BK426 hb; replace HB := zB HB hb; (try clear hb); (try clear ho0))); try go_wp2_with (first | ((with_reducible refine gD (N := 2) rfl ?_); refine zX (N := 2) (cs := #[.slice A0_0 l0_0.length c0_0, .slice A0_1 l0_1.length c0_1]) (t := 25) ?_; intro gb426 hg w6 hbox hb; have n0_ := zB HB hb; have n1_ := A0_ (hbox); have n2_ := zG hg HB; have n3_ := zG hg HB; clear HB; have HB := n0_; have BK426 := n1_; have GW426 := n2_; have GE426 := n3_; clear n0_ n1_ n2_ n3_ hb hbox hg; have hcz7_0 := zc0 BK426; have hcz7_1 := zc1 BK426; have hfz7_0 := kF BK426.out 0; have hfz7_1 := kF BK426.out 1) | (go_at_call 94; (with_reducible refine (spec_l7Edges.calls k _ _ l0_0 _ _ l0_1 t427 _ ?side1 ?side2 ?side3 ?side4 A3.out).mono ?_); (case side1 => exact zC HR0_0 HB); (case side2 => exact HC0_0.out); (case side3 => exact zC HR0_1 HB); (case side4 => exact HC0_1.out); rintro e w8 ⟨v428, rfl, ho0, hb⟩; have n0_ := A0_ (rL ho0 (bZ (zB_ HB))); have n1_ := zK BK426 hb; have n2_ := zB HB hb; clear BK426 HB; have HO429 := n0_; have BK426 := n1_; have HB := n2_; clear n0_ n1_ n2_; (try clear hb); (try clear hb2); (try clear hk); (try clear hi); (try clear ho0); have hcz9_0 := zc0 BK426; have hcz9_1 := zc1 BK426; have hfz9_0 := kF BK426.out 0; have hfz9_1 := kF BK426.out 1) | (go_at_call 95; (with_reducible refine (spec_l1Same.calls k (l0_1.length : Int) t430 _ A4.out).mono ?_); rintro e w10 ⟨v431, rfl, ho0, hb⟩; have n0_ := A0_ (Kd.R_elder' (zR_ HO429) (Kd.R_base ho0) hb); have n1_ := A0_ (rL (Kd.R_new' ho0 (rX (zR_ HO429))) (bZ (zB_ HB))); have n2_ := zK BK426 hb; have n3_ := zB HB hb; clear HO429 BK426 HB; have HO429 := n0_; have HO432 := n1_; have BK426 := n2_; have HB := n3_; clear n0_ n1_ n2_ n3_; (try clear hb); (try clear hb2); (try clear hk); (try clear hi); (try clear ho0); have hcz11_0 := zc0 BK426; have hcz11_1 := zc1 BK426; have hfz11_0 := kF BK426.out 0; have hfz11_1 := kF BK426.out 1) | (go_at_call 88; (with_reducible refine (spec_l1Cycles.calls k _ _ l0_0 t433 _ ?side1 ?side2 A5.out).mono ?_); (case side1 => exact zC HR0_0 HB); (case side2 => exact HC0_0.out); rintro e w12 ⟨v434, rfl, ho0, hb⟩; have n0_ := zR HO429 hb; have n1_ := zR HO432 hb; have n2_ := A0_ (Kd.S_lower (Kd.S_new' (Kd.S_new' ho0 (rX (zR_ HO429))) (rX (zR_ HO432))) (bZ (zB_ HB))); have n3_ := zK BK426 hb; have n4_ := zB HB hb; clear HO429 HO432 BK426 HB; have HO429 := n0_; have HO432 := n1_; have HO435 := n2_; have BK426 := n3_; have HB := n4_; clear n0_ n1_ n2_ n3_ n4_; (try clear hb); (try clear hb2); (try clear hk); (try clear hi); (try clear ho0))))
 go_loopg [7, 9] k (fun kq v7 v9 w' => ∃ (x7_1 : Int) (x9_1 : Int), v7 = .int .i64 x7_1 ∧ v9 = .int .i64 x9_1 ∧ Aside0 (spec_l7Sides.l0 kq l1 t427 t430 x7_1 t433 x9_1 l0_0 l0_1 = some r) ∧ Aside0 (kq ≤ k) ∧ Aside0 (Kd.R (Kd.int .i64) 3 w' w.heap.size (fun k_ => some k_ ≠ (v431 : Value).ownBlock) v428 t427) ∧ Aside0 (Kd.R (Kd.int .i64) 3 w' w.heap.size (fun k_ => some k_ ≠ (v428 : Value).ownBlock) v431 t430) ∧ Aside0 (Kd.S (Kd.slice 3 (Kd.int .i64)) 23 w' w.heap.size (fun k_ => some k_ ≠ (v428 : Value).ownBlock ∧ some k_ ≠ (v431 : Value).ownBlock) v434 t433) ∧ Aside0 (w'.heap[gb426]? = some (.cells #[(.slice A0_0 l0_0.length c0_0), (.slice A0_1 l0_1.length c0_1)] 25 (0, 0))) ∧ Aside0 (Below w.heap.size w w'))
 case atStart => exact ⟨(0), (0), zt, zt, H', ⟨Nat.le_refl _⟩, ⟨zmR HO429 (fun _ hk => hk.2)⟩, ⟨zmR HO432 (fun _ hk => hk.2)⟩, ⟨zmS HO435 (fun _ hk => ⟨hk.1.2, hk.2⟩)⟩, ⟨zK_ BK426⟩, ⟨zB_ HB⟩⟩
 case round =>
  clear H'; (try clear c1); (try clear p2); (try clear c8); (try clear hcz11_0); (try clear hcz11_1); (try clear hcz7_0); (try clear hcz7_1); (try clear hcz9_0); (try clear hcz9_1); (try clear hfz11_0); (try clear hfz11_1); (try clear hfz7_0); (try clear hfz7_1); (try clear hfz9_0); (try clear hfz9_1); obtain ⟨x7_1, x9_1, rfl, rfl, HA, HK1, HO_5, HO_6, HO_8, BK426, HB⟩ := hrel
  cases gk with
  | zero => exact absurd HA.out (by simp [spec_l7Sides.l0])
  | succ k1 =>
   have H := HA.out; clear HA; simp only [spec_l7Sides.l0] at H
   by_cases c13 : x9_1 < (t433.length : Int)
   ·rw [if_pos c13] at H
    have c13b0 := dT c13; clear c13; have H' := A0_ H; clear H; obtain ⟨Ao14, co14, eo14⟩ := Kd.S_slice HO_8.out; subst eo14
    go_wp2
    repeat (go_quiet (fail); try go_wp2)
    go_loopg [10, 11] k1 (fun kq v10 v11 w' => ∃ (x10_2 : Int) (x11_2 : Int), v10 = .int .i64 x10_2 ∧ v11 = .int .i64 x11_2 ∧ Aside0 (spec_l7Sides.l1 kq l1 t427 t430 x7_1 t433 x9_1 x10_2 x11_2 l0_0 l0_1 = some r) ∧ Aside0 (kq ≤ k1) ∧ Aside0 (Kd.R (Kd.int .i64) 3 w' w.heap.size (fun k_ => some k_ ≠ (v431 : Value).ownBlock) v428 t427) ∧ Aside0 (Kd.R (Kd.int .i64) 3 w' w.heap.size (fun k_ => some k_ ≠ (v428 : Value).ownBlock) v431 t430) ∧ Aside0 (Kd.S (Kd.slice 3 (Kd.int .i64)) 23 w' w.heap.size (fun k_ => some k_ ≠ (v428 : Value).ownBlock ∧ some k_ ≠ (v431 : Value).ownBlock) (.slice Ao14 t433.length co14) t433) ∧ Aside0 (w'.heap[gb426]? = some (.cells #[(.slice A0_0 l0_0.length c0_0), (.slice A0_1 l0_1.length c0_1)] 25 (0, 0))) ∧ Aside0 (Below w.heap.size w w'))
    case atStart => exact ⟨(0), (0), zt, zt, H', ⟨Nat.le_refl _⟩, ⟨zR_ HO_5⟩, ⟨zR_ HO_6⟩, ⟨zS_ HO_8⟩, ⟨zK_ BK426⟩, ⟨zB_ HB⟩⟩
    case round =>
     clear H'; (try clear c1); (try clear p2); (try clear c8); (try clear c13); (try clear c13b0); (try clear hcz11_0); (try clear hcz11_1); (try clear hcz7_0); (try clear hcz7_1); (try clear hcz9_0); (try clear hcz9_1); (try clear hfz11_0); (try clear hfz11_1); (try clear hfz7_0); (try clear hfz7_1); (try clear hfz9_0); (try clear hfz9_1); (try clear p2); obtain ⟨x10_2, x11_2, rfl, rfl, HA, HK2, HO_5, HO_6, HO_8, BK426, HB⟩ := hrel
     cases gk with
     | zero => exact absurd HA.out (by simp [spec_l7Sides.l1])
     | succ k2 =>
      have H := HA.out; clear HA; simp only [spec_l7Sides.l1] at H
      by_cases c15 : 0 ≤ x9_1
      ·rw [if_pos c15] at H
       have c15b0 := dT c15; clear c15
       by_cases c16 : x9_1 < (t433.length : Int)
       ·rw [if_pos c16] at H
        have c16b0 := dT c16; clear c16
        by_cases c17 : x11_2 < ((rd_L1 t433 x9_1).length : Int)
        ·rw [if_pos c17] at H
         have c17b0 := dT c17; clear c17
         by_cases c18 : 0 ≤ x11_2
         ·rw [if_pos c18] at H
          have c18b0 := dT c18; clear c18
          by_cases c19 : 0 ≤ (rd (rd_L1 t433 x9_1) x11_2)
          ·rw [if_pos c19] at H
           have c19b0 := dT c19; clear c19
           by_cases c20 : (rd (rd_L1 t433 x9_1) x11_2) < (t427.length : Int)
           ·rw [if_pos c20] at H
            have c20b0 := dT c20; clear c20; obtain ⟨t440, A21, H⟩ := zbind H
            by_cases c22 : t440 = true
            ·subst c22
             rw [if_pos rfl] at H; have H' := A0_ H; clear H
             have p436 : 0 ≤ (x9_1 : Int) := zd
             have q436 : x9_1 < (t433.length : Int) := zd
             obtain ⟨ad436, A436_0, c436_0, e436, hx436_0, hl436_0, hi436_0⟩ := at_L1 (Kd.S_reads' HO_8.out).2.2 x9_1 p436 q436
             cases e436
             obtain ⟨ce436, hce436, hMe436, hcc436⟩ := Kd.S_get HO_8.out [] x9_1 p436 (by first | exact q436 | exact zd | (have e_ := (Kd.S_reads' HO_8.out).1; omega))
             obtain ⟨ve436_0, rfl, ge436_0⟩ := hMe436; have hv436_0 := hcc436 0 _ rfl
             rw [Nat.add_zero, show ((Kd.slice 3 (Kd.int .i64))).sz = 1 from rfl, Nat.mul_one] at hv436_0
             replace hv436_0 := sI (hv436_0.symm.trans hx436_0)
             rw [hv436_0] at ge436_0
             have HL436_0 := A0_ (show Kd.R (Kd.int .i64) 3 _ _ _ _ (rd_L1 t433 x9_1) from ge436_0)
             clear hv436_0 ge436_0 hcc436 hce436; have HR436_0 := A0_ hi436_0; have HC436_0 := A0_ hl436_0; clear hi436_0 hl436_0; replace p436 := eq_true p436; replace q436 := eq_true q436
             have p437 : 0 ≤ (x9_1 : Int) := zd
             have q437 : x9_1 < (t433.length : Int) := zd
             obtain ⟨ad437, A437_0, c437_0, e437, hx437_0, hl437_0, hi437_0⟩ := at_L1 (Kd.S_reads' HO_8.out).2.2 x9_1 p437 q437
             obtain rfl : ad436 = ad437 := (by injection e437)
             obtain ⟨ce437, hce437, hMe437, hcc437⟩ := Kd.S_get HO_8.out [] x9_1 p437 (by first | exact q437 | exact zd | (have e_ := (Kd.S_reads' HO_8.out).1; omega))
             obtain ⟨ve437_0, rfl, ge437_0⟩ := hMe437; have hv437_0 := hcc437 0 _ rfl
             rw [Nat.add_zero, show ((Kd.slice 3 (Kd.int .i64))).sz = 1 from rfl, Nat.mul_one] at hv437_0
             replace hv437_0 := sI (hv437_0.symm.trans hx437_0)
             rw [hv437_0] at ge437_0
             have HL437_0 := A0_ (show Kd.R (Kd.int .i64) 3 _ _ _ _ (rd_L1 t433 x9_1) from ge437_0)
             clear hv437_0 ge437_0 hcc437 hce437; have HR437_0 := A0_ hi437_0; have HC437_0 := A0_ hl437_0; clear hi437_0 hl437_0; replace p437 := eq_true p437; replace q437 := eq_true q437
             have ea_ := sI (hx436_0.symm.trans hx437_0)
             injection ea_ with ea_ en_ ec_
             subst ea_; subst ec_; clear en_
             have p438 : 0 ≤ (x11_2 : Int) := zd
             have q438 : x11_2 < ((rd_L1 t433 x9_1).length : Int) := zd
             obtain ⟨ad438, e438, hx438_0⟩ := tI (by repeat (first | (with_reducible exact HR437_0.out) | (with_reducible refine cA ?_ _) | (with_reducible refine cN ?_ _) | (with_reducible refine cD ?_) | exact HR437_0.out)) x11_2 p438 q438
             cases e438
             replace p438 := eq_true p438; replace q438 := eq_true q438; obtain ⟨Ao23, co23, eo23⟩ := rS HO_5.out; subst eo23
             have p439 : 0 ≤ ((rd (rd_L1 t433 x9_1) x11_2) : Int) := zd
             have q439 : (rd (rd_L1 t433 x9_1) x11_2) < (t427.length : Int) := zd
             obtain ⟨ad439, e439, hx439_0⟩ := tI (rR HO_5.out).2.2 (rd (rd_L1 t433 x9_1) x11_2) p439 q439
             cases e439
             replace p439 := eq_true p439; replace q439 := eq_true q439
             go_wp2_with (first | (go_at_call 118; (with_reducible refine (spec_l7Has.calls k2 _ _ l1 (rd t427 (rd (rd_L1 t433 x9_1) x11_2)) true _ ?side1 ?side2 A21.out).mono ?_); (case side1 => exact zC HR1 HB); (case side2 => exact HC1.out); rintro e w' ⟨rfl, ⟨nd, rfl⟩⟩; (try first | exact ⟨rfl, _, World.drewN_drewN _ _ _⟩ | exact ⟨rfl, _, Eq.trans (World.drewN_drewN _ _ _) (congrArg (World.drewN _) (Nat.add_assoc _ _ _))⟩)))
             repeat (go_quiet (first | (go_at_call 118; (with_reducible refine (spec_l7Has.calls k2 _ _ l1 (rd t427 (rd (rd_L1 t433 x9_1) x11_2)) true _ ?side1 ?side2 A21.out).mono ?_); (case side1 => exact zC HR1 HB); (case side2 => exact HC1.out); rintro e w' ⟨rfl, ⟨nd, rfl⟩⟩; (try first | exact ⟨rfl, _, World.drewN_drewN _ _ _⟩ | exact ⟨rfl, _, Eq.trans (World.drewN_drewN _ _ _) (congrArg (World.drewN _) (Nat.add_assoc _ _ _))⟩))); try go_wp2_with (first | (go_at_call 118; (with_reducible refine (spec_l7Has.calls k2 _ _ l1 (rd t427 (rd (rd_L1 t433 x9_1) x11_2)) true _ ?side1 ?side2 A21.out).mono ?_); (case side1 => exact zC HR1 HB); (case side2 => exact HC1.out); rintro e w' ⟨rfl, ⟨nd, rfl⟩⟩; (try first | exact ⟨rfl, _, World.drewN_drewN _ _ _⟩ | exact ⟨rfl, _, Eq.trans (World.drewN_drewN _ _ _) (congrArg (World.drewN _) (Nat.add_assoc _ _ _))⟩))))
             go_roundg k2
             case measure => have := HK1.out; have := HK2.out; omega
             case rel => exact ⟨(wrap64 (x10_2 + 1)), (wrap64 (x11_2 + 1)), zt, zt, H', ⟨by have := HK1.out; have := HK2.out; omega⟩, ⟨zR_ HO_5⟩, ⟨zR_ HO_6⟩, ⟨zS_ HO_8⟩, ⟨zK_ BK426⟩, ⟨zB_ HB⟩⟩
            replace c22 := Bool.eq_false_iff.mpr c22; subst c22
            rw [if_neg (show ¬ (false = true) by decide)] at H
            have H' := A0_ H; clear H
            have p436 : 0 ≤ (x9_1 : Int) := zd
            have q436 : x9_1 < (t433.length : Int) := zd
            obtain ⟨ad436, A436_0, c436_0, e436, hx436_0, hl436_0, hi436_0⟩ := at_L1 (Kd.S_reads' HO_8.out).2.2 x9_1 p436 q436
            cases e436
            obtain ⟨ce436, hce436, hMe436, hcc436⟩ := Kd.S_get HO_8.out [] x9_1 p436 (by first | exact q436 | exact zd | (have e_ := (Kd.S_reads' HO_8.out).1; omega))
            obtain ⟨ve436_0, rfl, ge436_0⟩ := hMe436; have hv436_0 := hcc436 0 _ rfl
            rw [Nat.add_zero, show ((Kd.slice 3 (Kd.int .i64))).sz = 1 from rfl, Nat.mul_one] at hv436_0
            replace hv436_0 := sI (hv436_0.symm.trans hx436_0)
            rw [hv436_0] at ge436_0
            have HL436_0 := A0_ (show Kd.R (Kd.int .i64) 3 _ _ _ _ (rd_L1 t433 x9_1) from ge436_0)
            clear hv436_0 ge436_0 hcc436 hce436; have HR436_0 := A0_ hi436_0; have HC436_0 := A0_ hl436_0; clear hi436_0 hl436_0; replace p436 := eq_true p436; replace q436 := eq_true q436
            have p437 : 0 ≤ (x9_1 : Int) := zd
            have q437 : x9_1 < (t433.length : Int) := zd
            obtain ⟨ad437, A437_0, c437_0, e437, hx437_0, hl437_0, hi437_0⟩ := at_L1 (Kd.S_reads' HO_8.out).2.2 x9_1 p437 q437
            obtain rfl : ad436 = ad437 := (by injection e437)
            obtain ⟨ce437, hce437, hMe437, hcc437⟩ := Kd.S_get HO_8.out [] x9_1 p437 (by first | exact q437 | exact zd | (have e_ := (Kd.S_reads' HO_8.out).1; omega))
            obtain ⟨ve437_0, rfl, ge437_0⟩ := hMe437; have hv437_0 := hcc437 0 _ rfl
            rw [Nat.add_zero, show ((Kd.slice 3 (Kd.int .i64))).sz = 1 from rfl, Nat.mul_one] at hv437_0
            replace hv437_0 := sI (hv437_0.symm.trans hx437_0)
            rw [hv437_0] at ge437_0
            have HL437_0 := A0_ (show Kd.R (Kd.int .i64) 3 _ _ _ _ (rd_L1 t433 x9_1) from ge437_0)
            clear hv437_0 ge437_0 hcc437 hce437; have HR437_0 := A0_ hi437_0; have HC437_0 := A0_ hl437_0; clear hi437_0 hl437_0; replace p437 := eq_true p437; replace q437 := eq_true q437
            have ea_ := sI (hx436_0.symm.trans hx437_0)
            injection ea_ with ea_ en_ ec_
            subst ea_; subst ec_; clear en_
            have p438 : 0 ≤ (x11_2 : Int) := zd
            have q438 : x11_2 < ((rd_L1 t433 x9_1).length : Int) := zd
            obtain ⟨ad438, e438, hx438_0⟩ := tI (by repeat (first | (with_reducible exact HR437_0.out) | (with_reducible refine cA ?_ _) | (with_reducible refine cN ?_ _) | (with_reducible refine cD ?_) | exact HR437_0.out)) x11_2 p438 q438
            cases e438
            replace p438 := eq_true p438; replace q438 := eq_true q438; obtain ⟨Ao24, co24, eo24⟩ := rS HO_5.out; subst eo24
            have p439 : 0 ≤ ((rd (rd_L1 t433 x9_1) x11_2) : Int) := zd
            have q439 : (rd (rd_L1 t433 x9_1) x11_2) < (t427.length : Int) := zd
            obtain ⟨ad439, e439, hx439_0⟩ := tI (rR HO_5.out).2.2 (rd (rd_L1 t433 x9_1) x11_2) p439 q439
            cases e439
            replace p439 := eq_true p439; replace q439 := eq_true q439
            go_wp2_with (first | (go_at_call 118; (with_reducible refine (spec_l7Has.calls k2 _ _ l1 (rd t427 (rd (rd_L1 t433 x9_1) x11_2)) false _ ?side1 ?side2 A21.out).mono ?_); (case side1 => exact zC HR1 HB); (case side2 => exact HC1.out); rintro e w' ⟨rfl, ⟨nd, rfl⟩⟩; (try first | exact ⟨rfl, _, World.drewN_drewN _ _ _⟩ | exact ⟨rfl, _, Eq.trans (World.drewN_drewN _ _ _) (congrArg (World.drewN _) (Nat.add_assoc _ _ _))⟩)))
            repeat (go_quiet (first | (go_at_call 118; (with_reducible refine (spec_l7Has.calls k2 _ _ l1 (rd t427 (rd (rd_L1 t433 x9_1) x11_2)) false _ ?side1 ?side2 A21.out).mono ?_); (case side1 => exact zC HR1 HB); (case side2 => exact HC1.out); rintro e w' ⟨rfl, ⟨nd, rfl⟩⟩; (try first | exact ⟨rfl, _, World.drewN_drewN _ _ _⟩ | exact ⟨rfl, _, Eq.trans (World.drewN_drewN _ _ _) (congrArg (World.drewN _) (Nat.add_assoc _ _ _))⟩))); try go_wp2_with (first | (go_at_call 118; (with_reducible refine (spec_l7Has.calls k2 _ _ l1 (rd t427 (rd (rd_L1 t433 x9_1) x11_2)) false _ ?side1 ?side2 A21.out).mono ?_); (case side1 => exact zC HR1 HB); (case side2 => exact HC1.out); rintro e w' ⟨rfl, ⟨nd, rfl⟩⟩; (try first | exact ⟨rfl, _, World.drewN_drewN _ _ _⟩ | exact ⟨rfl, _, Eq.trans (World.drewN_drewN _ _ _) (congrArg (World.drewN _) (Nat.add_assoc _ _ _))⟩))))
            go_roundg k2
            case measure => have := HK1.out; have := HK2.out; omega
            case rel => exact ⟨(x10_2), (wrap64 (x11_2 + 1)), zt, zt, H', ⟨by have := HK1.out; have := HK2.out; omega⟩, ⟨zR_ HO_5⟩, ⟨zR_ HO_6⟩, ⟨zS_ HO_8⟩, ⟨zK_ BK426⟩, ⟨zB_ HB⟩⟩
           rw [if_neg c20] at H
           exact absurd H (by simp)
          rw [if_neg c19] at H
          exact absurd H (by simp)
         rw [if_neg c18] at H
         exact absurd H (by simp)
        rw [if_neg c17] at H; have c17b0 := dF c17; clear c17
        by_cases c25 : x10_2 = 0
        ·rw [if_pos c25] at H
         have c25b0 : (x10_2 == 0) = true := beq_iff_eq.mpr c25
         have c25b1 : (x10_2 != 0) = false := bne_eq_false_iff_eq.mpr c25
         clear c25; have H' := A0_ H; clear H
         have p436 : 0 ≤ (x9_1 : Int) := zd
         have q436 : x9_1 < (t433.length : Int) := zd
         obtain ⟨ad436, A436_0, c436_0, e436, hx436_0, hl436_0, hi436_0⟩ := at_L1 (Kd.S_reads' HO_8.out).2.2 x9_1 p436 q436
         cases e436
         obtain ⟨ce436, hce436, hMe436, hcc436⟩ := Kd.S_get HO_8.out [] x9_1 p436 (by first | exact q436 | exact zd | (have e_ := (Kd.S_reads' HO_8.out).1; omega))
         obtain ⟨ve436_0, rfl, ge436_0⟩ := hMe436; have hv436_0 := hcc436 0 _ rfl
         rw [Nat.add_zero, show ((Kd.slice 3 (Kd.int .i64))).sz = 1 from rfl, Nat.mul_one] at hv436_0
         replace hv436_0 := sI (hv436_0.symm.trans hx436_0)
         rw [hv436_0] at ge436_0
         have HL436_0 := A0_ (show Kd.R (Kd.int .i64) 3 _ _ _ _ (rd_L1 t433 x9_1) from ge436_0)
         clear hv436_0 ge436_0 hcc436 hce436; have HR436_0 := A0_ hi436_0; have HC436_0 := A0_ hl436_0; clear hi436_0 hl436_0; replace p436 := eq_true p436; replace q436 := eq_true q436
         go_wp2
         repeat (go_quiet (fail); try go_wp2)
         go_roundg k2
         case measure => have := HK1.out; have := HK2.out; omega
         case rel => exact ⟨(wrap64 (x7_1 + 1)), (wrap64 (x9_1 + 1)), zt, zt, H', ⟨by have := HK1.out; have := HK2.out; omega⟩, ⟨zR_ HO_5⟩, ⟨zR_ HO_6⟩, ⟨zS_ HO_8⟩, ⟨zK_ BK426⟩, ⟨zB_ HB⟩⟩
        rw [if_neg c25] at H
        have c25b0 : (x10_2 == 0) = false := beq_eq_false_iff_ne.mpr c25
        have c25b1 : (x10_2 != 0) = true := bne_iff_ne.mpr c25
        have H' := A0_ H; clear H
        have p436 : 0 ≤ (x9_1 : Int) := zd
        have q436 : x9_1 < (t433.length : Int) := zd
        obtain ⟨ad436, A436_0, c436_0, e436, hx436_0, hl436_0, hi436_0⟩ := at_L1 (Kd.S_reads' HO_8.out).2.2 x9_1 p436 q436
        cases e436
        obtain ⟨ce436, hce436, hMe436, hcc436⟩ := Kd.S_get HO_8.out [] x9_1 p436 (by first | exact q436 | exact zd | (have e_ := (Kd.S_reads' HO_8.out).1; omega))
        obtain ⟨ve436_0, rfl, ge436_0⟩ := hMe436; have hv436_0 := hcc436 0 _ rfl
        rw [Nat.add_zero, show ((Kd.slice 3 (Kd.int .i64))).sz = 1 from rfl, Nat.mul_one] at hv436_0
        replace hv436_0 := sI (hv436_0.symm.trans hx436_0)
        rw [hv436_0] at ge436_0
        have HL436_0 := A0_ (show Kd.R (Kd.int .i64) 3 _ _ _ _ (rd_L1 t433 x9_1) from ge436_0)
        clear hv436_0 ge436_0 hcc436 hce436; have HR436_0 := A0_ hi436_0; have HC436_0 := A0_ hl436_0; clear hi436_0 hl436_0; replace p436 := eq_true p436; replace q436 := eq_true q436
        go_wp2
        repeat (go_quiet (fail); try go_wp2)
        go_roundg k2
        case measure => have := HK1.out; have := HK2.out; omega
        case rel => exact ⟨(x7_1), (wrap64 (x9_1 + 1)), zt, zt, H', ⟨by have := HK1.out; have := HK2.out; omega⟩, ⟨zR_ HO_5⟩, ⟨zR_ HO_6⟩, ⟨zS_ HO_8⟩, ⟨zK_ BK426⟩, ⟨zB_ HB⟩⟩
       rw [if_neg c16] at H
       exact absurd H (by simp)
      rw [if_neg c15] at H
      exact absurd H (by simp)
   rw [if_neg c13] at H; have c13b0 := dF c13; clear c13; have H' := A0_ H; clear H; obtain ⟨Ao26, co26, eo26⟩ := Kd.S_slice HO_8.out; subst eo26
   go_wp2
   repeat (go_quiet (fail); try go_wp2)
   go_loopg [12] k1 (fun kq v12 w' => ∃ (x6_2 : List Int) (x12_2 : Int), v12 = .int .i64 x12_2 ∧ Aside0 (spec_l7Sides.l2 kq l1 t427 x6_2 x7_1 x12_2 l0_0 l0_1 = some r) ∧ Aside0 (kq ≤ k1) ∧ Aside0 (Kd.R (Kd.int .i64) 3 w' w.heap.size (fun k_ => some k_ ≠ (v431 : Value).ownBlock) v428 t427) ∧ Aside0 (Kd.R (Kd.int .i64) 3 w' w.heap.size (fun k_ => some k_ ≠ (v428 : Value).ownBlock) v431 x6_2) ∧ Aside0 (w'.heap[gb426]? = some (.cells #[(.slice A0_0 l0_0.length c0_0), (.slice A0_1 l0_1.length c0_1)] 25 (0, 0))) ∧ Aside0 (Below w.heap.size w w'))
   case atStart => exact ⟨(t430), (0), zt, H', ⟨Nat.le_refl _⟩, ⟨zR_ HO_5⟩, ⟨zR_ HO_6⟩, ⟨zK_ BK426⟩, ⟨zB_ HB⟩⟩
   case round =>
    clear H'; (try clear c1); (try clear c2); (try clear p2); (try clear c4); (try clear p4); (try clear q4); (try clear hx4); (try clear p6); (try clear c8); (try clear c13); (try clear c13b0); (try clear c15); (try clear c15b0); (try clear c16); (try clear c16b0); (try clear c17); (try clear c17b0); (try clear c18); (try clear c18b0); (try clear c19); (try clear c19b0); (try clear c20); (try clear c20b0); (try clear c22); (try clear c25); (try clear c25b0); (try clear c25b1); (try clear hcz11_0); (try clear hcz11_1); (try clear hcz7_0); (try clear hcz7_1); (try clear hcz9_0); (try clear hcz9_1); (try clear hfz11_0); (try clear hfz11_1); (try clear hfz7_0); (try clear hfz7_1); (try clear hfz9_0); (try clear hfz9_1); (try clear hx436_0); (try clear hx437_0); (try clear hx438_0); (try clear hx439_0); (try clear p2); (try clear p436); (try clear p437); (try clear p438); (try clear p439); (try clear q436); (try clear q437); (try clear q438); (try clear q439); obtain ⟨x6_2, x12_2, rfl, HA, HK2, HO_5, HO_6, BK426, HB⟩ := hrel
    cases gk with
    | zero => exact absurd HA.out (by simp [spec_l7Sides.l2])
    | succ k2 =>
     have H := HA.out; clear HA; simp only [spec_l7Sides.l2] at H
     by_cases c27 : x12_2 < (x6_2.length : Int)
     ·rw [if_pos c27] at H
      have c27b0 := dT c27; clear c27
      by_cases c28 : 0 ≤ x12_2
      ·rw [if_pos c28] at H
       have c28b0 := dT c28; clear c28
       by_cases c29 : x12_2 < (t427.length : Int)
       ·rw [if_pos c29] at H
        have c29b0 := dT c29; clear c29; obtain ⟨t445, A30, H⟩ := zbind H
        by_cases c31 : t445 = true
        ·subst c31
         rw [if_pos rfl] at H
         by_cases c32 : x12_2 < (l0_1.length : Int)
         ·rw [if_pos c32] at H
          have c32b0 := dT c32; clear c32
          by_cases c33 : 0 ≤ (rd l0_1 x12_2)
          ·rw [if_pos c33] at H
           have c33b0 := dT c33; clear c33
           by_cases c34 : (rd l0_1 x12_2) < (l0_0.length : Int)
           ·rw [if_pos c34] at H
            have c34b0 := dT c34; clear c34; have H' := A0_ H; clear H; obtain ⟨Ao35, co35, eo35⟩ := rS HO_6.out; subst eo35; obtain ⟨Ao36, co36, eo36⟩ := rS HO_5.out; subst eo36
            have p444 : 0 ≤ (x12_2 : Int) := zd
            have q444 : x12_2 < (t427.length : Int) := zd
            obtain ⟨ad444, e444, hx444_0⟩ := tI (rR HO_5.out).2.2 x12_2 p444 q444
            cases e444
            replace p444 := eq_true p444; replace q444 := eq_true q444
            go_wp2_with (first | (go_at_call 118; (with_reducible refine (spec_l7Has.calls k2 _ _ l1 (rd t427 x12_2) true _ ?side1 ?side2 A30.out).mono ?_); (case side1 => exact zC HR1 HB); (case side2 => exact HC1.out); rintro e w' ⟨rfl, ⟨nd, rfl⟩⟩; (try first | exact ⟨rfl, _, World.drewN_drewN _ _ _⟩ | exact ⟨rfl, _, Eq.trans (World.drewN_drewN _ _ _) (congrArg (World.drewN _) (Nat.add_assoc _ _ _))⟩); have hcz37_0 := zc0 BK426; have hcz37_1 := zc1 BK426; have hfz37_0 := kF BK426.out 0; have hfz37_1 := kF BK426.out 1; have p446 : 0 ≤ (x12_2 : Int) := zd; have q446 : x12_2 < (l0_1.length : Int) := zd; obtain ⟨ad446, e446, hx446_0⟩ := tI HR0_1.out x12_2 p446 q446; cases e446; try replace hx446_0 := (HB.out.cell (wL w _ hx446_0)).trans hx446_0; replace p446 := eq_true p446; replace q446 := eq_true q446; have p447 : 0 ≤ ((rd l0_1 x12_2) : Int) := zd; have q447 : (rd l0_1 x12_2) < (l0_0.length : Int) := zd; obtain ⟨ad447, e447, hx447_0⟩ := tI HR0_0.out (rd l0_1 x12_2) p447 q447; cases e447; try replace hx447_0 := (HB.out.cell (wL w _ hx447_0)).trans hx447_0; replace p447 := eq_true p447; replace q447 := eq_true q447))
            repeat (go_quiet (first | (go_at_call 118; (with_reducible refine (spec_l7Has.calls k2 _ _ l1 (rd t427 x12_2) true _ ?side1 ?side2 A30.out).mono ?_); (case side1 => exact zC HR1 HB); (case side2 => exact HC1.out); rintro e w' ⟨rfl, ⟨nd, rfl⟩⟩; (try first | exact ⟨rfl, _, World.drewN_drewN _ _ _⟩ | exact ⟨rfl, _, Eq.trans (World.drewN_drewN _ _ _) (congrArg (World.drewN _) (Nat.add_assoc _ _ _))⟩); have hcz37_0 := zc0 BK426; have hcz37_1 := zc1 BK426; have hfz37_0 := kF BK426.out 0; have hfz37_1 := kF BK426.out 1; have p446 : 0 ≤ (x12_2 : Int) := zd; have q446 : x12_2 < (l0_1.length : Int) := zd; obtain ⟨ad446, e446, hx446_0⟩ := tI HR0_1.out x12_2 p446 q446; cases e446; try replace hx446_0 := (HB.out.cell (wL w _ hx446_0)).trans hx446_0; replace p446 := eq_true p446; replace q446 := eq_true q446; have p447 : 0 ≤ ((rd l0_1 x12_2) : Int) := zd; have q447 : (rd l0_1 x12_2) < (l0_0.length : Int) := zd; obtain ⟨ad447, e447, hx447_0⟩ := tI HR0_0.out (rd l0_1 x12_2) p447 q447; cases e447; try replace hx447_0 := (HB.out.cell (wL w _ hx447_0)).trans hx447_0; replace p447 := eq_true p447; replace q447 := eq_true q447)); try go_wp2_with (first | (go_at_call 118; (with_reducible refine (spec_l7Has.calls k2 _ _ l1 (rd t427 x12_2) true _ ?side1 ?side2 A30.out).mono ?_); (case side1 => exact zC HR1 HB); (case side2 => exact HC1.out); rintro e w' ⟨rfl, ⟨nd, rfl⟩⟩; (try first | exact ⟨rfl, _, World.drewN_drewN _ _ _⟩ | exact ⟨rfl, _, Eq.trans (World.drewN_drewN _ _ _) (congrArg (World.drewN _) (Nat.add_assoc _ _ _))⟩); have hcz37_0 := zc0 BK426; have hcz37_1 := zc1 BK426; have hfz37_0 := kF BK426.out 0; have hfz37_1 := kF BK426.out 1; have p446 : 0 ≤ (x12_2 : Int) := zd; have q446 : x12_2 < (l0_1.length : Int) := zd; obtain ⟨ad446, e446, hx446_0⟩ := tI HR0_1.out x12_2 p446 q446; cases e446; try replace hx446_0 := (HB.out.cell (wL w _ hx446_0)).trans hx446_0; replace p446 := eq_true p446; replace q446 := eq_true q446; have p447 : 0 ≤ ((rd l0_1 x12_2) : Int) := zd; have q447 : (rd l0_1 x12_2) < (l0_0.length : Int) := zd; obtain ⟨ad447, e447, hx447_0⟩ := tI HR0_0.out (rd l0_1 x12_2) p447 q447; cases e447; try replace hx447_0 := (HB.out.cell (wL w _ hx447_0)).trans hx447_0; replace p447 := eq_true p447; replace q447 := eq_true q447)))
            (try generalize Value.pointer (some (ad444.add (x12_2 : Int).toNat)) = pz_)
            go_loopg [13] k2 (fun kq v13 w' => ∃ (x13_3 : Int), v13 = .int .i64 x13_3 ∧ Aside0 (spec_l7Sides.l3 kq l1 t427 x6_2 x7_1 x12_2 x13_3 l0_0 l0_1 = some r) ∧ Aside0 (kq ≤ k2) ∧ Aside0 (Kd.R (Kd.int .i64) 3 w' w.heap.size (fun k_ => some k_ ≠ ((.slice Ao35 x6_2.length co35) : Value).ownBlock) (.slice (some ad444) t427.length co36) t427) ∧ Aside0 (Kd.R (Kd.int .i64) 3 w' w.heap.size (fun k_ => some k_ ≠ ((.slice (some ad444) t427.length co36) : Value).ownBlock) (.slice Ao35 x6_2.length co35) x6_2) ∧ Aside0 (w'.heap[gb426]? = some (.cells #[(.slice (some ad447) l0_0.length c0_0), (.slice (some ad446) l0_1.length c0_1)] 25 (0, 0))) ∧ Aside0 (Below w.heap.size w w'))
            case atStart => exact ⟨(rd l0_0 (rd l0_1 x12_2)), zt, H', ⟨Nat.le_refl _⟩, ⟨zR_ HO_5⟩, ⟨zR_ HO_6⟩, ⟨zK_ BK426⟩, ⟨zB_ HB⟩⟩
            case round =>
             clear H'; (try clear c1); (try clear c2); (try clear p2); (try clear c3); (try clear c4); (try clear p4); (try clear q4); (try clear hx4); (try clear p6); (try clear c8); (try clear c13); (try clear c13b0); (try clear c15); (try clear c15b0); (try clear c16); (try clear c16b0); (try clear c17); (try clear c17b0); (try clear c18); (try clear c18b0); (try clear c19); (try clear c19b0); (try clear c20); (try clear c20b0); (try clear c22); (try clear c25); (try clear c25b0); (try clear c25b1); (try clear c27); (try clear c27b0); (try clear c28); (try clear c28b0); (try clear c29); (try clear c29b0); (try clear c31); (try clear c32); (try clear c32b0); (try clear c33); (try clear c33b0); (try clear c34); (try clear c34b0); (try clear hcz11_0); (try clear hcz11_1); (try clear hcz37_0); (try clear hcz37_1); (try clear hcz7_0); (try clear hcz7_1); (try clear hcz9_0); (try clear hcz9_1); (try clear hfz11_0); (try clear hfz11_1); (try clear hfz37_0); (try clear hfz37_1); (try clear hfz7_0); (try clear hfz7_1); (try clear hfz9_0); (try clear hfz9_1); (try clear hx436_0); (try clear hx437_0); (try clear hx438_0); (try clear hx439_0); (try clear hx444_0); (try clear hx446_0); (try clear hx447_0); (try clear p2); (try clear p4); (try clear p436); (try clear p437); (try clear p438); (try clear p439); (try clear p444); (try clear p446); (try clear p447); (try clear p6); (try clear q4); (try clear q436); (try clear q437); (try clear q438); (try clear q439); (try clear q444); (try clear q446); (try clear q447); obtain ⟨x13_3, rfl, HA, HK3, HO_5, HO_6, BK426, HB⟩ := hrel
             cases gk with
             | zero => exact absurd HA.out (by simp [spec_l7Sides.l3])
             | succ k3 =>
              have H := HA.out; clear HA; simp only [spec_l7Sides.l3] at H
              by_cases c38 : 0 ≤ x13_3
              ·rw [if_pos c38] at H
               have c38b0 := dT c38; clear c38
               by_cases c39 : x13_3 < (t427.length : Int)
               ·rw [if_pos c39] at H
                have c39b0 := dT c39; clear c39; obtain ⟨t449, A40, H⟩ := zbind H
                by_cases c41 : t449 = true
                ·subst c41
                 rw [if_pos rfl] at H
                 by_cases c42 : 0 ≤ x12_2
                 ·rw [if_pos c42] at H
                  have c42b0 := dT c42; clear c42
                  by_cases c43 : x12_2 < (x6_2.length : Int)
                  ·rw [if_pos c43] at H
                   have c43b0 := dT c43; clear c43
                   obtain ⟨y450, hy450⟩ : ∃ y_ : List Int, y_ = (x6_2.set (x12_2 : Int).toNat x13_3) := ⟨_, rfl⟩
                   replace H : (spec_l7Sides.l2 k3 l1 t427 y450 x7_1 (wrap64 (x12_2 + 1)) l0_0 l0_1) = some r := zH hy450 H
                   have Ny450 := A0_ hy450; clear hy450; have H' := A0_ H; clear H
                   have p448 : 0 ≤ (x13_3 : Int) := zd
                   have q448 : x13_3 < (t427.length : Int) := zd
                   obtain ⟨ad448, e448, hx448_0⟩ := tI (rR HO_5.out).2.2 x13_3 p448 q448
                   obtain rfl : ad444 = ad448 := (by injection e448)
                   replace p448 := eq_true p448; replace q448 := eq_true q448
                   go_wp2_with (first | (go_at_call 118; (with_reducible refine (spec_l7Has.calls k3 _ _ l1 (rd t427 x13_3) true _ ?side1 ?side2 A40.out).mono ?_); (case side1 => exact zC HR1 HB); (case side2 => exact HC1.out); rintro e w' ⟨rfl, ⟨nd, rfl⟩⟩; (try first | exact ⟨rfl, _, World.drewN_drewN _ _ _⟩ | exact ⟨rfl, _, Eq.trans (World.drewN_drewN _ _ _) (congrArg (World.drewN _) (Nat.add_assoc _ _ _))⟩); have p44 : 0 ≤ (x12_2 : Int) := zd; have q44 : (x12_2 : Int) < ((x6_2.length : Int) : Int) := zd; obtain ⟨go44, co44, eo44, gb44, gl44, cl44, HG44⟩ := Kd.R_form HO_6.out (by omega); (first | cases eo44 | (injection eo44 with ea_ en_ ec_; (first | subst ea_ | (injection ea_ with ea_; subst ea_)); subst ec_; clear en_)); have GB44 := A0_ gb44; have GG44 := A0_ HG44; clear gb44 gl44 HG44; obtain ⟨hx44_0, hf44_0⟩ := Kd.R_celln 0 HO_6.out (x12_2 : Int) p44 q44; replace p44 := eq_true p44; replace q44 := eq_true q44; obtain ⟨hy45_, hz45_⟩ := Kd.R_celln 0 HO_6.out (x12_2 : Int) (zd) (zd); have HP45 := Kd.R_putg HO_6.out (x12_2 : Int) x13_3) | ((with_reducible refine gS (t := 3) (p := 92) rfl ?_); (try (rw [drewN_self wr]; generalize hq_ : World.drewN wr _ = wr; have n0_ := A0_ (Kd.R_at hq_ HO_5.out); have n1_ := A0_ (Kd.R_at hq_ HO_6.out); have n2_ := A0_ (blk_at hq_ BK426.out); have n3_ := A0_ (below_at hq_ HB.out); clear hq_ HO_5 HO_6 BK426 HB; have HO_5 := n0_; have HO_6 := n1_; have BK426 := n2_; have HB := n3_; clear n0_ n1_ n2_ n3_; (try (obtain ⟨hy45_, hz45_⟩ := Kd.R_celln 0 HO_6.out (x12_2 : Int) (zd) (zd))); (try (have HP45 := Kd.R_putg HO_6.out (x12_2 : Int) x13_3)))); refine store_event (t := 3) (p := 92) (v := ?vo_w46) (w1 := (wr.setCell ⟨go44, (x12_2 : Int).toNat, none⟩ (.int .i64 x13_3))) ?hg ?ho ?hn ?hr ?_; (case ho => rfl); (case hg => rfl); (case hn => rfl); (case hr => first | (go_simp; done) | (go_simp; rfl)); intro w46 hw; have hg : wr.grownBy w46 (some go44) := (by rw [hw]; exact HP45.2); have hp_ : Kd.R (Kd.int .i64) 3 w46 w.heap.size (fun k_ => some k_ ≠ (.slice (some ad444) t427.length co36 : Value).ownBlock) (.slice (some ⟨go44, 0, none⟩) x6_2.length co35) y450 := (by rw [hw, Ny450.out]; exact HP45.1); clear HP45; replace HO_5 := A0_ (Kd.R_after (v := (.slice (some ⟨go44, 0, none⟩) x6_2.length co35)) (v1 := (.slice (some ⟨go44, 0, none⟩) x6_2.length co35)) (ok := (fun _ => True)) (zmR HO_5 (fun _ hk => ⟨trivial, hk⟩)) hg (.inl rfl)); replace BK426 := A0_ (blk_grown (g := gb426) (o := .cells #[.slice (some ad447) l0_0.length c0_0, .slice (some ad446) l0_1.length c0_1] 25 (0, 0)) (zK_ BK426) hg (Kd.R_ne HO_6.out BK426.out (by decide))); replace HO_6 := A0_ (hp_); replace HB := A0_ ((by rw [hw]; exact bS (HB.out) GB44.out : Below w.heap.size w w46)); clear hg hw hp_))
                   repeat (go_quiet (first | (go_at_call 118; (with_reducible refine (spec_l7Has.calls k3 _ _ l1 (rd t427 x13_3) true _ ?side1 ?side2 A40.out).mono ?_); (case side1 => exact zC HR1 HB); (case side2 => exact HC1.out); rintro e w' ⟨rfl, ⟨nd, rfl⟩⟩; (try first | exact ⟨rfl, _, World.drewN_drewN _ _ _⟩ | exact ⟨rfl, _, Eq.trans (World.drewN_drewN _ _ _) (congrArg (World.drewN _) (Nat.add_assoc _ _ _))⟩); have p44 : 0 ≤ (x12_2 : Int) := zd; have q44 : (x12_2 : Int) < ((x6_2.length : Int) : Int) := zd; obtain ⟨go44, co44, eo44, gb44, gl44, cl44, HG44⟩ := Kd.R_form HO_6.out (by omega); (first | cases eo44 | (injection eo44 with ea_ en_ ec_; (first | subst ea_ | (injection ea_ with ea_; subst ea_)); subst ec_; clear en_)); have GB44 := A0_ gb44; have GG44 := A0_ HG44; clear gb44 gl44 HG44; obtain ⟨hx44_0, hf44_0⟩ := Kd.R_celln 0 HO_6.out (x12_2 : Int) p44 q44; replace p44 := eq_true p44; replace q44 := eq_true q44; obtain ⟨hy45_, hz45_⟩ := Kd.R_celln 0 HO_6.out (x12_2 : Int) (zd) (zd); have HP45 := Kd.R_putg HO_6.out (x12_2 : Int) x13_3) | ((with_reducible refine gS (t := 3) (p := 92) rfl ?_); (try (rw [drewN_self wr]; generalize hq_ : World.drewN wr _ = wr; have n0_ := A0_ (Kd.R_at hq_ HO_5.out); have n1_ := A0_ (Kd.R_at hq_ HO_6.out); have n2_ := A0_ (blk_at hq_ BK426.out); have n3_ := A0_ (below_at hq_ HB.out); clear hq_ HO_5 HO_6 BK426 HB; have HO_5 := n0_; have HO_6 := n1_; have BK426 := n2_; have HB := n3_; clear n0_ n1_ n2_ n3_; (try (obtain ⟨hy45_, hz45_⟩ := Kd.R_celln 0 HO_6.out (x12_2 : Int) (zd) (zd))); (try (have HP45 := Kd.R_putg HO_6.out (x12_2 : Int) x13_3)))); refine store_event (t := 3) (p := 92) (v := ?vo_w46) (w1 := (wr.setCell ⟨go44, (x12_2 : Int).toNat, none⟩ (.int .i64 x13_3))) ?hg ?ho ?hn ?hr ?_; (case ho => rfl); (case hg => rfl); (case hn => rfl); (case hr => first | (go_simp; done) | (go_simp; rfl)); intro w46 hw; have hg : wr.grownBy w46 (some go44) := (by rw [hw]; exact HP45.2); have hp_ : Kd.R (Kd.int .i64) 3 w46 w.heap.size (fun k_ => some k_ ≠ (.slice (some ad444) t427.length co36 : Value).ownBlock) (.slice (some ⟨go44, 0, none⟩) x6_2.length co35) y450 := (by rw [hw, Ny450.out]; exact HP45.1); clear HP45; replace HO_5 := A0_ (Kd.R_after (v := (.slice (some ⟨go44, 0, none⟩) x6_2.length co35)) (v1 := (.slice (some ⟨go44, 0, none⟩) x6_2.length co35)) (ok := (fun _ => True)) (zmR HO_5 (fun _ hk => ⟨trivial, hk⟩)) hg (.inl rfl)); replace BK426 := A0_ (blk_grown (g := gb426) (o := .cells #[.slice (some ad447) l0_0.length c0_0, .slice (some ad446) l0_1.length c0_1] 25 (0, 0)) (zK_ BK426) hg (Kd.R_ne HO_6.out BK426.out (by decide))); replace HO_6 := A0_ (hp_); replace HB := A0_ ((by rw [hw]; exact bS (HB.out) GB44.out : Below w.heap.size w w46)); clear hg hw hp_)); try go_wp2_with (first | (go_at_call 118; (with_reducible refine (spec_l7Has.calls k3 _ _ l1 (rd t427 x13_3) true _ ?side1 ?side2 A40.out).mono ?_); (case side1 => exact zC HR1 HB); (case side2 => exact HC1.out); rintro e w' ⟨rfl, ⟨nd, rfl⟩⟩; (try first | exact ⟨rfl, _, World.drewN_drewN _ _ _⟩ | exact ⟨rfl, _, Eq.trans (World.drewN_drewN _ _ _) (congrArg (World.drewN _) (Nat.add_assoc _ _ _))⟩); have p44 : 0 ≤ (x12_2 : Int) := zd; have q44 : (x12_2 : Int) < ((x6_2.length : Int) : Int) := zd; obtain ⟨go44, co44, eo44, gb44, gl44, cl44, HG44⟩ := Kd.R_form HO_6.out (by omega); (first | cases eo44 | (injection eo44 with ea_ en_ ec_; (first | subst ea_ | (injection ea_ with ea_; subst ea_)); subst ec_; clear en_)); have GB44 := A0_ gb44; have GG44 := A0_ HG44; clear gb44 gl44 HG44; obtain ⟨hx44_0, hf44_0⟩ := Kd.R_celln 0 HO_6.out (x12_2 : Int) p44 q44; replace p44 := eq_true p44; replace q44 := eq_true q44; obtain ⟨hy45_, hz45_⟩ := Kd.R_celln 0 HO_6.out (x12_2 : Int) (zd) (zd); have HP45 := Kd.R_putg HO_6.out (x12_2 : Int) x13_3) | ((with_reducible refine gS (t := 3) (p := 92) rfl ?_); (try (rw [drewN_self wr]; generalize hq_ : World.drewN wr _ = wr; have n0_ := A0_ (Kd.R_at hq_ HO_5.out); have n1_ := A0_ (Kd.R_at hq_ HO_6.out); have n2_ := A0_ (blk_at hq_ BK426.out); have n3_ := A0_ (below_at hq_ HB.out); clear hq_ HO_5 HO_6 BK426 HB; have HO_5 := n0_; have HO_6 := n1_; have BK426 := n2_; have HB := n3_; clear n0_ n1_ n2_ n3_; (try (obtain ⟨hy45_, hz45_⟩ := Kd.R_celln 0 HO_6.out (x12_2 : Int) (zd) (zd))); (try (have HP45 := Kd.R_putg HO_6.out (x12_2 : Int) x13_3)))); refine store_event (t := 3) (p := 92) (v := ?vo_w46) (w1 := (wr.setCell ⟨go44, (x12_2 : Int).toNat, none⟩ (.int .i64 x13_3))) ?hg ?ho ?hn ?hr ?_; (case ho => rfl); (case hg => rfl); (case hn => rfl); (case hr => first | (go_simp; done) | (go_simp; rfl)); intro w46 hw; have hg : wr.grownBy w46 (some go44) := (by rw [hw]; exact HP45.2); have hp_ : Kd.R (Kd.int .i64) 3 w46 w.heap.size (fun k_ => some k_ ≠ (.slice (some ad444) t427.length co36 : Value).ownBlock) (.slice (some ⟨go44, 0, none⟩) x6_2.length co35) y450 := (by rw [hw, Ny450.out]; exact HP45.1); clear HP45; have n0_ := A0_ (Kd.R_after (v := (.slice (some ⟨go44, 0, none⟩) x6_2.length co35)) (v1 := (.slice (some ⟨go44, 0, none⟩) x6_2.length co35)) (ok := (fun _ => True)) (zmR HO_5 (fun _ hk => ⟨trivial, hk⟩)) hg (.inl rfl)); have n1_ := A0_ (hp_); have n2_ := A0_ (blk_grown (g := gb426) (o := .cells #[.slice (some ad447) l0_0.length c0_0, .slice (some ad446) l0_1.length c0_1] 25 (0, 0)) (zK_ BK426) hg (Kd.R_ne HO_6.out BK426.out (by decide))); have n3_ := A0_ ((by rw [hw]; exact bS (HB.out) GB44.out : Below w.heap.size w w46)); clear HO_5 HO_6 BK426 HB; have HO_5 := n0_; have HO_6 := n1_; have BK426 := n2_; have HB := n3_; clear n0_ n1_ n2_ n3_ hg hw hp_)))
                   go_roundg k3
                   case measure => have := HK1.out; have := HK2.out; have := HK3.out; omega
                   case rel => exact ⟨(y450), (wrap64 (x12_2 + 1)), zt, H', ⟨by have := HK1.out; have := HK2.out; have := HK3.out; omega⟩, ⟨zmR HO_5 (fun _ hk => hk.2)⟩, ⟨zR_ HO_6⟩, ⟨zK_ BK426⟩, ⟨zB_ HB⟩⟩
                  rw [if_neg c43] at H
                  exact absurd H (by simp)
                 rw [if_neg c42] at H
                 exact absurd H (by simp)
                replace c41 := Bool.eq_false_iff.mpr c41; subst c41
                rw [if_neg (show ¬ (false = true) by decide)] at H
                by_cases c47 : x13_3 < (l0_0.length : Int)
                ·rw [if_pos c47] at H
                 have c47b0 := dT c47; clear c47; have H' := A0_ H; clear H
                 have p448 : 0 ≤ (x13_3 : Int) := zd
                 have q448 : x13_3 < (t427.length : Int) := zd
                 obtain ⟨ad448, e448, hx448_0⟩ := tI (rR HO_5.out).2.2 x13_3 p448 q448
                 obtain rfl : ad444 = ad448 := (by injection e448)
                 replace p448 := eq_true p448; replace q448 := eq_true q448
                 go_wp2_with (first | (go_at_call 118; (with_reducible refine (spec_l7Has.calls k3 _ _ l1 (rd t427 x13_3) false _ ?side1 ?side2 A40.out).mono ?_); (case side1 => exact zC HR1 HB); (case side2 => exact HC1.out); rintro e w' ⟨rfl, ⟨nd, rfl⟩⟩; (try first | exact ⟨rfl, _, World.drewN_drewN _ _ _⟩ | exact ⟨rfl, _, Eq.trans (World.drewN_drewN _ _ _) (congrArg (World.drewN _) (Nat.add_assoc _ _ _))⟩); have hcz48_0 := zc0 BK426; have hcz48_1 := zc1 BK426; have hfz48_0 := kF BK426.out 0; have hfz48_1 := kF BK426.out 1; have p451 : 0 ≤ (x13_3 : Int) := zd; have q451 : x13_3 < (l0_0.length : Int) := zd; obtain ⟨ad451, e451, hx451_0⟩ := tI HR0_0.out x13_3 p451 q451; obtain rfl : ad447 = ad451 := (by injection e451); try replace hx451_0 := (HB.out.cell (wL w _ hx451_0)).trans hx451_0; replace p451 := eq_true p451; replace q451 := eq_true q451))
                 repeat (go_quiet (first | (go_at_call 118; (with_reducible refine (spec_l7Has.calls k3 _ _ l1 (rd t427 x13_3) false _ ?side1 ?side2 A40.out).mono ?_); (case side1 => exact zC HR1 HB); (case side2 => exact HC1.out); rintro e w' ⟨rfl, ⟨nd, rfl⟩⟩; (try first | exact ⟨rfl, _, World.drewN_drewN _ _ _⟩ | exact ⟨rfl, _, Eq.trans (World.drewN_drewN _ _ _) (congrArg (World.drewN _) (Nat.add_assoc _ _ _))⟩); have hcz48_0 := zc0 BK426; have hcz48_1 := zc1 BK426; have hfz48_0 := kF BK426.out 0; have hfz48_1 := kF BK426.out 1; have p451 : 0 ≤ (x13_3 : Int) := zd; have q451 : x13_3 < (l0_0.length : Int) := zd; obtain ⟨ad451, e451, hx451_0⟩ := tI HR0_0.out x13_3 p451 q451; obtain rfl : ad447 = ad451 := (by injection e451); try replace hx451_0 := (HB.out.cell (wL w _ hx451_0)).trans hx451_0; replace p451 := eq_true p451; replace q451 := eq_true q451)); try go_wp2_with (first | (go_at_call 118; (with_reducible refine (spec_l7Has.calls k3 _ _ l1 (rd t427 x13_3) false _ ?side1 ?side2 A40.out).mono ?_); (case side1 => exact zC HR1 HB); (case side2 => exact HC1.out); rintro e w' ⟨rfl, ⟨nd, rfl⟩⟩; (try first | exact ⟨rfl, _, World.drewN_drewN _ _ _⟩ | exact ⟨rfl, _, Eq.trans (World.drewN_drewN _ _ _) (congrArg (World.drewN _) (Nat.add_assoc _ _ _))⟩); have hcz48_0 := zc0 BK426; have hcz48_1 := zc1 BK426; have hfz48_0 := kF BK426.out 0; have hfz48_1 := kF BK426.out 1; have p451 : 0 ≤ (x13_3 : Int) := zd; have q451 : x13_3 < (l0_0.length : Int) := zd; obtain ⟨ad451, e451, hx451_0⟩ := tI HR0_0.out x13_3 p451 q451; obtain rfl : ad447 = ad451 := (by injection e451); try replace hx451_0 := (HB.out.cell (wL w _ hx451_0)).trans hx451_0; replace p451 := eq_true p451; replace q451 := eq_true q451)))
                 go_roundg k3
                 case measure => have := HK1.out; have := HK2.out; have := HK3.out; omega
                 case rel => exact ⟨(rd l0_0 x13_3), zt, H', ⟨by have := HK1.out; have := HK2.out; have := HK3.out; omega⟩, ⟨zR_ HO_5⟩, ⟨zR_ HO_6⟩, ⟨zK_ BK426⟩, ⟨zB_ HB⟩⟩
                rw [if_neg c47] at H
                exact absurd H (by simp)
               rw [if_neg c39] at H
               exact absurd H (by simp)
              rw [if_neg c38] at H
              exact absurd H (by simp)
           rw [if_neg c34] at H
           exact absurd H (by simp)
          rw [if_neg c33] at H
          exact absurd H (by simp)
         rw [if_neg c32] at H
         exact absurd H (by simp)
        replace c31 := Bool.eq_false_iff.mpr c31; subst c31
        rw [if_neg (show ¬ (false = true) by decide)] at H
        have H' := A0_ H; clear H; obtain ⟨Ao49, co49, eo49⟩ := rS HO_6.out; subst eo49; obtain ⟨Ao50, co50, eo50⟩ := rS HO_5.out; subst eo50
        have p444 : 0 ≤ (x12_2 : Int) := zd
        have q444 : x12_2 < (t427.length : Int) := zd
        obtain ⟨ad444, e444, hx444_0⟩ := tI (rR HO_5.out).2.2 x12_2 p444 q444
        cases e444
        replace p444 := eq_true p444; replace q444 := eq_true q444
        go_wp2_with (first | (go_at_call 118; (with_reducible refine (spec_l7Has.calls k2 _ _ l1 (rd t427 x12_2) false _ ?side1 ?side2 A30.out).mono ?_); (case side1 => exact zC HR1 HB); (case side2 => exact HC1.out); rintro e w' ⟨rfl, ⟨nd, rfl⟩⟩; (try first | exact ⟨rfl, _, World.drewN_drewN _ _ _⟩ | exact ⟨rfl, _, Eq.trans (World.drewN_drewN _ _ _) (congrArg (World.drewN _) (Nat.add_assoc _ _ _))⟩)))
        repeat (go_quiet (first | (go_at_call 118; (with_reducible refine (spec_l7Has.calls k2 _ _ l1 (rd t427 x12_2) false _ ?side1 ?side2 A30.out).mono ?_); (case side1 => exact zC HR1 HB); (case side2 => exact HC1.out); rintro e w' ⟨rfl, ⟨nd, rfl⟩⟩; (try first | exact ⟨rfl, _, World.drewN_drewN _ _ _⟩ | exact ⟨rfl, _, Eq.trans (World.drewN_drewN _ _ _) (congrArg (World.drewN _) (Nat.add_assoc _ _ _))⟩))); try go_wp2_with (first | (go_at_call 118; (with_reducible refine (spec_l7Has.calls k2 _ _ l1 (rd t427 x12_2) false _ ?side1 ?side2 A30.out).mono ?_); (case side1 => exact zC HR1 HB); (case side2 => exact HC1.out); rintro e w' ⟨rfl, ⟨nd, rfl⟩⟩; (try first | exact ⟨rfl, _, World.drewN_drewN _ _ _⟩ | exact ⟨rfl, _, Eq.trans (World.drewN_drewN _ _ _) (congrArg (World.drewN _) (Nat.add_assoc _ _ _))⟩))))
        go_roundg k2
        case measure => have := HK1.out; have := HK2.out; omega
        case rel => exact ⟨(x6_2), (wrap64 (x12_2 + 1)), zt, H', ⟨by have := HK1.out; have := HK2.out; omega⟩, ⟨zR_ HO_5⟩, ⟨zR_ HO_6⟩, ⟨zK_ BK426⟩, ⟨zB_ HB⟩⟩
       rw [if_neg c29] at H
       exact absurd H (by simp)
      rw [if_neg c28] at H
      exact absurd H (by simp)
     rw [if_neg c27] at H; have c27b0 := dF c27; clear c27; obtain ⟨t441, A51, H⟩ := zbind H; obtain rfl := sI H; obtain ⟨Ao52, co52, eo52⟩ := rS HO_6.out; subst eo52
     go_wp2_with (first | (go_at_call 88; (with_reducible refine (spec_l1Cycles.calls k2 _ _ x6_2 t441 _ ?side1 ?side2 A51.out).mono ?_); (case side1 => exact zD HO_6); (case side2 => exact (rR HO_6.out).2.1); rintro e w53 ⟨v442, rfl, ho0, hb⟩; have HO443 := A0_ (Kd.S_lower (Kd.S_new' (Kd.S_new' ho0 (rX (zR_ HO_5))) (rX (zR_ HO_6))) (bZ (zB_ HB))); replace HO_5 := zR HO_5 hb; replace HO_6 := zR HO_6 hb; replace BK426 := zK BK426 hb; replace HB := zB HB hb; (try clear hb); (try clear ho0); obtain ⟨Ao54, co54, eo54⟩ := Kd.S_slice HO443.out; subst eo54))
     repeat (go_quiet (first | (go_at_call 88; (with_reducible refine (spec_l1Cycles.calls k2 _ _ x6_2 t441 _ ?side1 ?side2 A51.out).mono ?_); (case side1 => exact zD HO_6); (case side2 => exact (rR HO_6.out).2.1); rintro e w53 ⟨v442, rfl, ho0, hb⟩; have HO443 := A0_ (Kd.S_lower (Kd.S_new' (Kd.S_new' ho0 (rX (zR_ HO_5))) (rX (zR_ HO_6))) (bZ (zB_ HB))); replace HO_5 := zR HO_5 hb; replace HO_6 := zR HO_6 hb; replace BK426 := zK BK426 hb; replace HB := zB HB hb; (try clear hb); (try clear ho0); obtain ⟨Ao54, co54, eo54⟩ := Kd.S_slice HO443.out; subst eo54)); try go_wp2_with (first | (go_at_call 88; (with_reducible refine (spec_l1Cycles.calls k2 _ _ x6_2 t441 _ ?side1 ?side2 A51.out).mono ?_); (case side1 => exact zD HO_6); (case side2 => exact (rR HO_6.out).2.1); rintro e w53 ⟨v442, rfl, ho0, hb⟩; have n0_ := zR HO_5 hb; have n1_ := zR HO_6 hb; have n2_ := A0_ (Kd.S_lower (Kd.S_new' (Kd.S_new' ho0 (rX (zR_ HO_5))) (rX (zR_ HO_6))) (bZ (zB_ HB))); have n3_ := zK BK426 hb; have n4_ := zB HB hb; clear HO_5 HO_6 BK426 HB; have HO_5 := n0_; have HO_6 := n1_; have HO443 := n2_; have BK426 := n3_; have HB := n4_; clear n0_ n1_ n2_ n3_ n4_; (try clear hb); (try clear hb2); (try clear hk); (try clear hi); (try clear ho0); obtain ⟨Ao54, co54, eo54⟩ := Kd.S_slice HO443.out; subst eo54)))
     go_ret
     exact ⟨by first | rfl | (simp [*] <;> rfl), zB_ HB⟩

/-! ### spec_l7Counts: function 44 -/
def spec_l7Counts.f (k : Nat) (l0_0 : List Int) (l0_1 : List Int) (l1 : List Int) : Option (List Int) := (spec_l7Parts.f k l0_0 l0_1 l1).bind fun t453 => ((spec_l7Sides.f k l0_0 l0_1 l1).bind fun t454 => ((spec_l1Cycles.f k l0_0).bind fun t455 => (some (([t453, t454, wrap64 ((t455.length : Int) - t453), wrap64 ((l1.length : Int) - (wrap64 ((t455.length : Int) - t453))), wrap64 (Int.tdiv (wrap64 ((wrap64 ((wrap64 ((wrap64 (2 * t453)) - (t455.length : Int))) + (l1.length : Int))) - t454)) 2)] : List Int)))))
set_option maxHeartbeats 8000000 in
set_option maxRecDepth 100000 in
theorem spec_l7Counts.calls (k : Nat) (A0_0 : Option Addr) (c0_0 : Nat) (l0_0 : List Int) (A0_1 : Option Addr) (c0_1 : Nat) (l0_1 : List Int) (A1 : Option Addr) (c1 : Nat) (l1 : List Int) (r : List Int) (w : World) (hr0_0 : Kd.C (Kd.int .i64) w A0_0 l0_0.length l0_0) (hc0_0 : l0_0.length ≤ c0_0) (hr0_1 : Kd.C (Kd.int .i64) w A0_1 l0_1.length l0_1) (hc0_1 : l0_1.length ≤ c0_1) (hr1 : Kd.C (Kd.int .i64) w A1 l1.length l1) (hc1 : l1.length ≤ c1) (h : spec_l7Counts.f k l0_0 l0_1 l1 = some r) :
    Calls Tryz.prog 44 #[.agg #[.slice A0_0 l0_0.length c0_0, .slice A0_1 l0_1.length c0_1], .slice A1 l1.length c1] w fun e w' => ∃ v0_ : Value, e = .returned (v0_) ∧ Kd.R (Kd.int .i64) 3 w' w.heap.size (fun _ => True) v0_ r ∧ Below w.heap.size w w' := by
 have hu25 := Tryz.underlying25; have HR0_0 := A0_ hr0_0; have HC0_0 := A0_ hc0_0; clear hr0_0 hc0_0; have HR0_1 := A0_ hr0_1; have HC0_1 := A0_ hc0_1; clear hr0_1 hc0_1; have HR1 := A0_ hr1; have HC1 := A0_ hc1; clear hr1 hc1
 have HB := A0_ (Below.refl w.heap.size w)
 have H : ((spec_l7Parts.f k l0_0 l0_1 l1).bind fun t453 => ((spec_l7Sides.f k l0_0 l0_1 l1).bind fun t454 => ((spec_l1Cycles.f k l0_0).bind fun t455 => (some (([t453, t454, wrap64 ((t455.length : Int) - t453), wrap64 ((l1.length : Int) - (wrap64 ((t455.length : Int) - t453))), wrap64 (Int.tdiv (wrap64 ((wrap64 ((wrap64 ((wrap64 (2 * t453)) - (t455.length : Int))) + (l1.length : Int))) - t454)) 2)] : List Int)))))) = some r := h
 clear h; obtain ⟨t453, A3, H⟩ := zbind H; obtain ⟨t454, A4, H⟩ := zbind H; obtain ⟨t455, A5, H⟩ := zbind H
 obtain ⟨y458, hy458⟩ : ∃ y_ : List Int, y_ = (([t453, t454, wrap64 ((t455.length : Int) - t453), wrap64 ((l1.length : Int) - (wrap64 ((t455.length : Int) - t453))), wrap64 (Int.tdiv (wrap64 ((wrap64 ((wrap64 ((wrap64 (2 * t453)) - (t455.length : Int))) + (l1.length : Int))) - t454)) 2)] : List Int)) := ⟨_, rfl⟩
 replace H : (some y458) = some r := zH hy458 H
 have Ny458 := A0_ hy458; clear hy458; obtain rfl := sI H
 go_enter Tryz.func44, Tryz.ntmps44
 go_wp2_with (first | ((with_reducible refine gD (N := 2) rfl ?_); refine zX (N := 2) (cs := #[.slice A0_0 l0_0.length c0_0, .slice A0_1 l0_1.length c0_1]) (t := 25) ?_; intro gb452 hg w6 hbox hb; have BK452 := A0_ (hbox); have GW452 := zG hg HB; have GE452 := zG hg HB; replace HB := zB HB hb; clear hb hbox hg; have hcz7_0 := zc0 BK452; have hcz7_1 := zc1 BK452; have hfz7_0 := kF BK452.out 0; have hfz7_1 := kF BK452.out 1) | ((with_reducible refine gC (f := 86) rfl ?_); refine zJ (some 11) Tryz.func86 #[.agg #[.slice A0_0 l0_0.length c0_0, .slice A0_1 l0_1.length c0_1], .slice A1 l1.length c1] ?_; (with_reducible refine (spec_l7Parts.calls k _ _ l0_0 _ _ l0_1 _ _ l1 t453 _ ?side1 ?side2 ?side3 ?side4 ?side5 ?side6 A3.out).mono ?_); (case side1 => exact zC HR0_0 HB); (case side2 => exact HC0_0.out); (case side3 => exact zC HR0_1 HB); (case side4 => exact HC0_1.out); (case side5 => exact zC HR1 HB); (case side6 => exact HC1.out); rintro e w8 ⟨rfl, hb⟩; refine ⟨_, rfl, ?_⟩; replace BK452 := zK BK452 hb; replace HB := zB HB hb; (try clear hb); have hcz9_0 := zc0 BK452; have hcz9_1 := zc1 BK452; have hfz9_0 := kF BK452.out 0; have hfz9_1 := kF BK452.out 1) | ((with_reducible refine gC (f := 87) rfl ?_); refine zJ (some 14) Tryz.func87 #[.agg #[.slice A0_0 l0_0.length c0_0, .slice A0_1 l0_1.length c0_1], .slice A1 l1.length c1] ?_; (with_reducible refine (spec_l7Sides.calls k _ _ l0_0 _ _ l0_1 _ _ l1 t454 _ ?side1 ?side2 ?side3 ?side4 ?side5 ?side6 A4.out).mono ?_); (case side1 => exact zC HR0_0 HB); (case side2 => exact HC0_0.out); (case side3 => exact zC HR0_1 HB); (case side4 => exact HC0_1.out); (case side5 => exact zC HR1 HB); (case side6 => exact HC1.out); rintro e w10 ⟨rfl, hb⟩; refine ⟨_, rfl, ?_⟩; replace BK452 := zK BK452 hb; replace HB := zB HB hb; (try clear hb); have hcz11_0 := zc0 BK452; have hcz11_1 := zc1 BK452; have hfz11_0 := kF BK452.out 0; have hfz11_1 := kF BK452.out 1) | ((with_reducible refine gC (f := 88) rfl ?_); refine zJ (some 17) Tryz.func88 #[.slice A0_0 l0_0.length c0_0] ?_; (with_reducible refine (spec_l1Cycles.calls k _ _ l0_0 t455 _ ?side1 ?side2 A5.out).mono ?_); (case side1 => exact zC HR0_0 HB); (case side2 => exact HC0_0.out); rintro e w12 ⟨v456, rfl, ho0, hb⟩; refine ⟨_, rfl, ?_⟩; have HO457 := A0_ (Kd.S_lower ho0 (bZ (zB_ HB))); replace BK452 := zK BK452 hb; replace HB := zB HB hb; (try clear hb); (try clear ho0); obtain ⟨Ao13, co13, eo13⟩ := Kd.S_slice HO457.out; subst eo13) | ((with_reducible refine gD (N := 39) rfl ?_); refine Kd.R_lit (Kd.int .i64) _ 3 ?hg (N := 39) ?hd (xs := ([t453, t454, wrap64 ((t455.length : Int) - t453), wrap64 ((l1.length : Int) - (wrap64 ((t455.length : Int) - t453))), wrap64 (Int.tdiv (wrap64 ((wrap64 ((wrap64 ((wrap64 (2 * t453)) - (t455.length : Int))) + (l1.length : Int))) - t454)) 2)] : List Int)) (inner := [.int .i64 t453, .int .i64 t454, .int .i64 (wrap64 ((t455.length : Int) - t453)), .int .i64 (wrap64 ((l1.length : Int) - (wrap64 ((t455.length : Int) - t453)))), .int .i64 (wrap64 (Int.tdiv (wrap64 ((wrap64 ((wrap64 ((wrap64 (2 * t453)) - (t455.length : Int))) + (l1.length : Int))) - t454)) 2))]) (ok := fun _ => True) (okp := fun _ => True) ?hr ?hp (fun _ hk => hk) trivial (Below.refl _ _) (Nat.le_refl _) (by simp) ?_; (case hd => rfl); (case hg => rfl); (case hr => first | (go_simp; done) | (go_simp; rfl)); (case hp => exact (Reps.one (show Kd.M (Kd.int .i64) _ _ _ t453 [.int .i64 t453] from rfl) (Reps.one (show Kd.M (Kd.int .i64) _ _ _ t454 [.int .i64 t454] from rfl) (Reps.one (show Kd.M (Kd.int .i64) _ _ _ (wrap64 ((t455.length : Int) - t453)) [.int .i64 (wrap64 ((t455.length : Int) - t453))] from rfl) (Reps.one (show Kd.M (Kd.int .i64) _ _ _ (wrap64 ((l1.length : Int) - (wrap64 ((t455.length : Int) - t453)))) [.int .i64 (wrap64 ((l1.length : Int) - (wrap64 ((t455.length : Int) - t453))))] from rfl) (Reps.one (show Kd.M (Kd.int .i64) _ _ _ (wrap64 (Int.tdiv (wrap64 ((wrap64 ((wrap64 ((wrap64 (2 * t453)) - (t455.length : Int))) + (l1.length : Int))) - t454)) 2)) [.int .i64 (wrap64 (Int.tdiv (wrap64 ((wrap64 ((wrap64 ((wrap64 (2 * t453)) - (t455.length : Int))) + (l1.length : Int))) - t454)) 2))] from rfl) (Reps.none _ _))))))); intro v459 w14 ho15 hb hg_ hnew_; clear hg_ hnew_; (first | rw [← Ny458.out] at ho15 | (simp only [Int.reduceToNat] at ho15; rw [← Ny458.out] at ho15)); replace HO457 := A0_ (Kd.S_elder' (zS_ HO457) (Kd.R_base ho15) hb); have HO460 := A0_ (rL ho15 (bZ (zB_ HB))); replace BK452 := zK BK452 hb; replace HB := zB HB hb; clear hb ho15))
 go_ret
 exact ⟨_, by first | rfl | (simp [*] <;> rfl), zR_ HO460, zB_ HB⟩

/-! ### spec_l7Power: function 45 -/
def spec_l7Power.l0 : Nat → Int → Int → Int → Int → Option (Int)
  | 0, _, _, _, _ => none
  | k + 1, x0, x1, x5, x6 => if x6 < x1 then (spec_l7Power.l0 k x0 x1 (wrap64 (x0 * x5)) (wrap64 (x6 + 1))) else (some x5)
def spec_l7Power.f (k : Nat) (a0 : Int) (a1 : Int) : Option (Int) := spec_l7Power.l0 k a0 a1 1 0
set_option maxHeartbeats 8000000 in
set_option maxRecDepth 100000 in
theorem spec_l7Power.calls (k : Nat) (a0 : Int) (a1 : Int) (r : Int) (w : World) (h : spec_l7Power.f k a0 a1 = some r) :
    Calls Tryz.prog 45 #[.int .i64 a0, .int .i64 a1] w fun e w' => e = .returned (.int .i64 r) ∧ Drawn0 w w' := by
 have H : (spec_l7Power.l0 k a0 a1 1 0) = some r := h
 clear h; have H' := A0_ H; clear H
 go_enter Tryz.func45, Tryz.ntmps45
 go_wp2
 go_loopg [5, 6] k (fun kq v5 v6 w' => ∃ (x5_1 : Int) (x6_1 : Int), v5 = .int .i64 x5_1 ∧ v6 = .int .i64 x6_1 ∧ Aside0 (spec_l7Power.l0 kq a0 a1 x5_1 x6_1 = some r) ∧ Aside0 (kq ≤ k) ∧ Drawn0 w w')
 case atStart => exact ⟨(1), (0), zt, zt, H', ⟨Nat.le_refl _⟩, by repeat (first | exact Drawn0.refl _ | apply Drawn0.step)⟩
 case round =>
  clear H'; (try clear p2); obtain ⟨x5_1, x6_1, rfl, rfl, HA, HK1, ⟨m1, rfl⟩⟩ := hrel
  cases gk with
  | zero => exact absurd HA.out (by simp [spec_l7Power.l0])
  | succ k1 =>
   have H := HA.out; clear HA; simp only [spec_l7Power.l0] at H
   by_cases c3 : x6_1 < a1
   ·rw [if_pos c3] at H
    have c3b0 := dT c3; clear c3; have H' := A0_ H; clear H
    go_wp2
    go_roundg k1
    case measure => have := HK1.out; omega
    case rel => exact ⟨(wrap64 (a0 * x5_1)), (wrap64 (x6_1 + 1)), zt, zt, H', ⟨by have := HK1.out; omega⟩, by repeat (first | exact Drawn0.refl _ | apply Drawn0.step)⟩
   rw [if_neg c3] at H; have c3b0 := dF c3; clear c3; obtain rfl := sI H
   go_wp2
   go_ret
   exact ⟨by first | rfl | (simp; done) | (simp [*]; done), by repeat (first | exact Drawn0.refl _ | apply Drawn0.step)⟩

end Go.Proofs.YtjebcgbmlbemcaaGreatDoor.PFnExecuteValue
