-- Made by a program of this session (wip/tools) out of the loaded program; not trusted: Lean checks it.
import Derived.Test.YtlckmmnpcljhoaaPFnShiftx0
import Derived.Test.YtlckmmnpcljhoaaPFnShiftx5
import Derived.Test.YtlckmmnpcljhoaaPFnShiftx6
import Derived.Test.YtlckmmnpcljhoaaPFnShiftx7
import Derived.Test.YtlckmmnpcljhoaaPFnShiftx8
import Derived.Test.YtlckmmnpcljhoaaPFnShiftx10
-- packed
namespace Go.Proofs.Ytlckmmnpcljhoaa.PFnShift
open Go.RowKit Go.Proofs.YtlckmmnpcljhoaaW.PrintWords Go.Proofs.YtlckmmnpcljhoaaW.PrintLast Go.Proofs.YtlckmmnpcljhoaaW.PrintMore
attribute [local go_sem] max2_int min2_int max_two min_two max_three min_three max_four min_four   -- for this text's walks alone
set_option linter.unusedVariables false
set_option linter.unusedSimpArgs false

/-! ### impl_CoverMap: function 9 -/
def impl_CoverMap.f (k : Nat) (l0_0 : List Int) (l0_1 : List Int) (a1 : Int) (l2 : List (List Int)) : Option (List Int × List Int × Bool) := (impl_VoltageValid.f k l0_0 l0_1 a1 l2).bind fun t378 => (if t378 = true then ((impl_cover.f k l0_0 l0_1 a1 l2).bind fun bt379 => ((impl_MapValid.f k bt379.1 bt379.2).bind fun t386 => (if t386 = true then (some (bt379.1, bt379.2, true)) else (some (([] : List Int), ([] : List Int), false))))) else (some (([] : List Int), ([] : List Int), false)))
set_option maxHeartbeats 8000000 in
set_option maxRecDepth 100000 in
theorem impl_CoverMap.calls (k : Nat) (A0_0 : Option Addr) (c0_0 : Nat) (l0_0 : List Int) (A0_1 : Option Addr) (c0_1 : Nat) (l0_1 : List Int) (a1 : Int) (A2 : Option Addr) (c2 : Nat) (l2 : List (List Int)) (r1 : List Int) (r2 : List Int) (r3 : Bool) (w : World) (hr0_0 : Kd.C (Kd.int .i64) w A0_0 l0_0.length l0_0) (hc0_0 : l0_0.length ≤ c0_0) (hr0_1 : Kd.C (Kd.int .i64) w A0_1 l0_1.length l0_1) (hc0_1 : l0_1.length ≤ c0_1) (hr2 : Kd.C (Kd.slice 3 (Kd.int .i64)) w A2 l2.length l2) (hc2 : l2.length ≤ c2) (h : impl_CoverMap.f k l0_0 l0_1 a1 l2 = some (r1, r2, r3)) :
    Calls Try.prog 9 #[.agg #[.slice A0_0 l0_0.length c0_0, .slice A0_1 l0_1.length c0_1], .int .i64 a1, .slice A2 l2.length c2] w fun e w' => ∃ v0_ v1_ : Value, e = .returned (.tuple #[.agg #[v0_, v1_], .bool r3]) ∧ Kd.R (Kd.int .i64) 3 w' w.heap.size (fun k_ => some k_ ≠ (v1_ : Value).ownBlock) v0_ r1 ∧ Kd.R (Kd.int .i64) 3 w' w.heap.size (fun k_ => some k_ ≠ (v0_ : Value).ownBlock) v1_ r2 ∧ Below w.heap.size w w' := by
 have hu25 := Try.underlying25; have HR0_0 := A0_ hr0_0; have HC0_0 := A0_ hc0_0; clear hr0_0 hc0_0; have HR0_1 := A0_ hr0_1; have HC0_1 := A0_ hc0_1; clear hr0_1 hc0_1; have HR2 := A0_ hr2; have HC2 := A0_ hc2; clear hr2 hc2
 have HB := A0_ (Below.refl w.heap.size w)
 have H : ((impl_VoltageValid.f k l0_0 l0_1 a1 l2).bind fun t378 => (if t378 = true then ((impl_cover.f k l0_0 l0_1 a1 l2).bind fun bt379 => ((impl_MapValid.f k bt379.1 bt379.2).bind fun t386 => (if t386 = true then (some (bt379.1, bt379.2, true)) else (some (([] : List Int), ([] : List Int), false))))) else (some (([] : List Int), ([] : List Int), false)))) = some (r1, r2, r3) := h
 clear h; obtain ⟨t378, A4, H⟩ := zbind H
 by_cases c5 : t378 = true
 ·subst c5
  have H1 : ((impl_cover.f k l0_0 l0_1 a1 l2).bind fun bt379 => ((impl_MapValid.f k bt379.1 bt379.2).bind fun t386 => (if t386 = true then (some (bt379.1, bt379.2, true)) else (some (([] : List Int), ([] : List Int), false))))) = some (r1, r2, r3) := by rw [if_pos rfl] at H; exact H
  clear H; have H := H1; clear H1; obtain ⟨⟨t379, t382⟩, A6, H⟩ := zbind H; dsimp only at H; obtain ⟨t386, A7, H⟩ := zbind H
  by_cases c8 : t386 = true
  ·subst c8
   have H1 : (some (t379, t382, true)) = some (r1, r2, r3) := by rw [if_pos rfl] at H; exact H
   clear H; have H := H1; clear H1; simp only [Option.some.injEq, Prod.mk.injEq] at H; obtain ⟨rfl, rfl, rfl⟩ := H
   go_enter Try.func9, Try.ntmps9
   go_wp2_with (first | ((with_reducible refine gD (N := 3) rfl ?_); refine box_event ?hg (N := 3) ?hd (cs := #[.slice A0_0 l0_0.length c0_0, .slice A0_1 l0_1.length c0_1]) (t := 25) ?hr ?_; (case hd => rfl); (case hg => rfl); (case hr => first | (go_simp; done) | (go_simp; rfl)); intro gb376 hg w9 hbox hb; have BK376 := A0_ (hbox); have GW376 := zG hg HB; have GE376 := zG hg HB; replace HB := zB HB hb; clear hb hbox hg) | ((with_reducible refine gD (N := 6) rfl ?_); refine box_event ?hg (N := 6) ?hd (cs := #[.slice none 0 0, .slice none 0 0]) (t := 25) ?hr ?_; (case hd => rfl); (case hg => rfl); (case hr => first | (go_simp; done) | (go_simp; rfl)); intro gb377 hg w10 hbox hb; have BK377 := A0_ (hbox); have GW377 := zG hg HB; have GE377 := zG hg HB; replace HB := zB HB hb; have NB376_377 := zL hg BK376; have NB377_376 := zM hg BK376; replace BK376 := zK BK376 hb; clear hb hbox hg; have hnb11 := NB376_377.out; have hnc11 := NB377_376.out; have hcz12_0 : w10.cell? ⟨gb376, 0, none⟩ = some (.slice A0_0 l0_0.length c0_0) := (kC BK376.out 0).trans rfl; have hcz12_1 : w10.cell? ⟨gb376, 1, none⟩ = some (.slice A0_1 l0_1.length c0_1) := (kC BK376.out 1).trans rfl; have hfz12_0 := kF BK376.out 0; have hfz12_1 := kF BK376.out 1) | ((with_reducible refine gC (f := 15) rfl ?_); refine goesL_ (some 12) rfl rfl Try.func15 (by kernel_rfl) rfl #[.agg #[.slice A0_0 l0_0.length c0_0, .slice A0_1 l0_1.length c0_1], .int .i64 a1, .slice A2 l2.length c2] rfl (by (try simp only [List.map_toArray, List.map_cons, List.map_nil]); first | done | rfl) ?_; (with_reducible refine (impl_VoltageValid.calls k _ _ l0_0 _ _ l0_1 a1 _ _ l2 true _ ?side1 ?side2 ?side3 ?side4 ?side5 ?side6 A4.out).mono ?_); (case side1 => repeat (first | exact (cB HR0_0.out HB.out) | (with_reducible refine cA ?_ _) | (with_reducible refine cN ?_ _) | (with_reducible refine cD ?_))); (case side2 => exact HC0_0.out); (case side3 => repeat (first | exact (cB HR0_1.out HB.out) | (with_reducible refine cA ?_ _) | (with_reducible refine cN ?_ _) | (with_reducible refine cD ?_))); (case side4 => exact HC0_1.out); (case side5 => repeat (first | exact (cB HR2.out HB.out) | (with_reducible refine cA ?_ _) | (with_reducible refine cN ?_ _) | (with_reducible refine cD ?_))); (case side6 => exact HC2.out); rintro e w13 ⟨rfl, hb⟩; refine ⟨_, rfl, ?_⟩; replace BK376 := zK BK376 hb; replace BK377 := zK BK377 hb; replace HB := zB HB hb; (try clear hb); have hcz14_0 : w13.cell? ⟨gb376, 0, none⟩ = some (.slice A0_0 l0_0.length c0_0) := (kC BK376.out 0).trans rfl; have hcz14_1 : w13.cell? ⟨gb376, 1, none⟩ = some (.slice A0_1 l0_1.length c0_1) := (kC BK376.out 1).trans rfl; have hfz14_0 := kF BK376.out 0; have hfz14_1 := kF BK376.out 1) | ((with_reducible refine gC (f := 26) rfl ?_); refine goesL_ (some 18) rfl rfl Try.func26 (by kernel_rfl) rfl #[.agg #[.slice A0_0 l0_0.length c0_0, .slice A0_1 l0_1.length c0_1], .int .i64 a1, .slice A2 l2.length c2] rfl (by (try simp only [List.map_toArray, List.map_cons, List.map_nil]); first | done | rfl) ?_; (with_reducible refine (impl_cover.calls k _ _ l0_0 _ _ l0_1 a1 _ _ l2 t379 t382 _ ?side1 ?side2 ?side3 ?side4 ?side5 ?side6 A6.out).mono ?_); (case side1 => repeat (first | exact (cB HR0_0.out HB.out) | (with_reducible refine cA ?_ _) | (with_reducible refine cN ?_ _) | (with_reducible refine cD ?_))); (case side2 => exact HC0_0.out); (case side3 => repeat (first | exact (cB HR0_1.out HB.out) | (with_reducible refine cA ?_ _) | (with_reducible refine cN ?_ _) | (with_reducible refine cD ?_))); (case side4 => exact HC0_1.out); (case side5 => repeat (first | exact (cB HR2.out HB.out) | (with_reducible refine cA ?_ _) | (with_reducible refine cN ?_ _) | (with_reducible refine cD ?_))); (case side6 => exact HC2.out); rintro e w15 ⟨v380, v383, rfl, ho0, ho1, hb⟩; refine ⟨_, rfl, ?_⟩; have HO381 := A0_ (rL ho0 (bZ (zB_ HB))); have HO384 := A0_ (rL ho1 (bZ (zB_ HB))); replace BK376 := zK BK376 hb; replace BK377 := zK BK377 hb; replace HB := zB HB hb; (try clear hb); (try clear ho0); (try clear ho1)) | ((with_reducible refine gD (N := 8) rfl ?_); refine box_event ?hg (N := 8) ?hd (cs := #[.slice none 0 0, .slice none 0 0]) (t := 25) ?hr ?_; (case hd => rfl); (case hg => rfl); (case hr => first | (go_simp; done) | (go_simp; rfl)); intro gb385 hg w16 hbox hb; replace HO381 := zR HO381 hb; replace HO384 := zR HO384 hb; have BK385 := A0_ (hbox); have GW385 := zG hg HB; have GE385 := zG hg HB; replace HB := zB HB hb; have NB376_385 := zL hg BK376; have NB385_376 := zM hg BK376; replace BK376 := zK BK376 hb; have NB377_385 := zL hg BK377; have NB385_377 := zM hg BK377; replace BK377 := zK BK377 hb; clear hb hbox hg; obtain ⟨Ao17, co17, eo17⟩ := rS HO381.out; subst eo17; have hnb18 := NB385_376.out; have hnc18 := NB376_385.out; have hnb19 := NB385_377.out; have hnc19 := NB377_385.out; have hcz20_0 : w16.cell? ⟨gb385, 0, none⟩ = some (.slice none 0 0) := (kC BK385.out 0).trans rfl; have hcz20_1 : w16.cell? ⟨gb385, 1, none⟩ = some (.slice none 0 0) := (kC BK385.out 1).trans rfl; have hfz20_0 := kF BK385.out 0; have hfz20_1 := kF BK385.out 1; obtain ⟨Ao21, co21, eo21⟩ := rS HO384.out; subst eo21) | ((with_reducible refine gS (t := 25) (p := 8) rfl ?_); refine store_event (t := 25) (p := 8) (v := ?vo_w22) (w1 := ((w16.setCell ⟨gb385, 0, none⟩ (.slice Ao17 t379.length co17)).setCell ⟨gb385, 1, none⟩ (.slice Ao21 t382.length co21))) ?hg ?ho ?hn ?hr ?_; (case ho => rfl); (case hg => rfl); (case hn => rfl); (case hr => first | (go_simp; done) | (go_simp; rfl)); intro w22 hw; replace HO381 : Aside0 (Kd.R (Kd.int .i64) 3 w22 w.heap.size (fun k_ => some k_ ≠ (.slice Ao21 t382.length co21 : Value).ownBlock) (.slice Ao17 t379.length co17) t379) := ⟨(by rw [hw]; exact (zF HO381 BK385 (.slice Ao17 t379.length co17) (.slice Ao21 t382.length co21) 0 1))⟩; replace HO384 : Aside0 (Kd.R (Kd.int .i64) 3 w22 w.heap.size (fun k_ => some k_ ≠ (.slice Ao17 t379.length co17 : Value).ownBlock) (.slice Ao21 t382.length co21) t382) := ⟨(by rw [hw]; exact (zF HO384 BK385 (.slice Ao17 t379.length co17) (.slice Ao21 t382.length co21) 0 1))⟩; replace BK376 : Aside0 (w22.heap[gb376]? = some (.cells #[.slice A0_0 l0_0.length c0_0, .slice A0_1 l0_1.length c0_1] 25 (0, 0))) := ⟨(by rw [hw]; exact (by (with_reducible repeat (first | refine kN ?_ _ | refine kD ?_ | refine kA ?_ _)); refine blk_far ?_ NB376_385.out _; (with_reducible repeat (first | refine kN ?_ _ | refine kD ?_ | refine kA ?_ _)); refine blk_far ?_ NB376_385.out _; (with_reducible repeat (first | refine kN ?_ _ | refine kD ?_ | refine kA ?_ _)); exact BK376.out))⟩; replace BK377 : Aside0 (w22.heap[gb377]? = some (.cells #[.slice none 0 0, .slice none 0 0] 25 (0, 0))) := ⟨(by rw [hw]; exact (by (with_reducible repeat (first | refine kN ?_ _ | refine kD ?_ | refine kA ?_ _)); refine blk_far ?_ NB377_385.out _; (with_reducible repeat (first | refine kN ?_ _ | refine kD ?_ | refine kA ?_ _)); refine blk_far ?_ NB377_385.out _; (with_reducible repeat (first | refine kN ?_ _ | refine kD ?_ | refine kA ?_ _)); exact BK377.out))⟩; replace BK385 : Aside0 (w22.heap[gb385]? = some (.cells #[.slice Ao17 t379.length co17, .slice Ao21 t382.length co21] 25 (0, 0))) := ⟨(by rw [hw]; exact (by (with_reducible repeat (first | refine kN ?_ _ | refine kD ?_ | refine kA ?_ _)); refine blk_put (cs := #[.slice Ao17 t379.length co17, .slice none 0 0]) ?_ 1 _ rfl; (with_reducible repeat (first | refine kN ?_ _ | refine kD ?_ | refine kA ?_ _)); refine blk_put (cs := #[.slice none 0 0, .slice none 0 0]) ?_ 0 _ rfl; (with_reducible repeat (first | refine kN ?_ _ | refine kD ?_ | refine kA ?_ _)); exact BK385.out))⟩; replace HB : Aside0 (Below w.heap.size w w22) := ⟨(by rw [hw]; exact (zB_ HB))⟩; clear hw; have hcz23_0 : w22.cell? ⟨gb385, 0, none⟩ = some (.slice Ao17 t379.length co17) := (kC BK385.out 0).trans rfl; have hcz23_1 : w22.cell? ⟨gb385, 1, none⟩ = some (.slice Ao21 t382.length co21) := (kC BK385.out 1).trans rfl; have hfz23_0 := kF BK385.out 0; have hfz23_1 := kF BK385.out 1) | ((with_reducible refine gC (f := 27) rfl ?_); refine goesL_ (some 20) rfl rfl Try.func27 (by kernel_rfl) rfl #[.agg #[.slice Ao17 t379.length co17, .slice Ao21 t382.length co21]] rfl (by (try simp only [List.map_toArray, List.map_cons, List.map_nil]); first | done | rfl) ?_; (with_reducible refine (impl_MapValid.calls k (fun k_ => some k_ = (.slice Ao17 t379.length co17 : Value).ownBlock) _ _ t379 (fun k_ => some k_ = (.slice Ao21 t382.length co21 : Value).ownBlock) _ _ t382 true _ ?side1 ?side2 A7.out).mono ?_); (case side1 => exact Kd.R_V (Kd.R_tight rfl (rY (rY (rY (HO381.out) BK376.out (by decide)) BK377.out (by decide)) BK385.out (by decide)))); (case side2 => exact Kd.R_V (Kd.R_tight rfl (rY (rY (rY (HO384.out) BK376.out (by decide)) BK377.out (by decide)) BK385.out (by decide)))); rintro e w24 ⟨rfl, hb⟩; refine ⟨_, rfl, ?_⟩; replace HO381 := zR HO381 hb; replace HO384 := zR HO384 hb; replace BK376 := zK BK376 hb; replace BK377 := zK BK377 hb; replace BK385 := zK BK385 hb; replace HB := zB HB hb; (try clear hb); have hcz25_0 : w24.cell? ⟨gb385, 0, none⟩ = some (.slice Ao17 t379.length co17) := (kC BK385.out 0).trans rfl; have hcz25_1 : w24.cell? ⟨gb385, 1, none⟩ = some (.slice Ao21 t382.length co21) := (kC BK385.out 1).trans rfl; have hfz25_0 := kF BK385.out 0; have hfz25_1 := kF BK385.out 1; have hcz26_0 : w24.cell? ⟨gb377, 0, none⟩ = some (.slice none 0 0) := (kC BK377.out 0).trans rfl; have hcz26_1 : w24.cell? ⟨gb377, 1, none⟩ = some (.slice none 0 0) := (kC BK377.out 1).trans rfl; have hfz26_0 := kF BK377.out 0; have hfz26_1 := kF BK377.out 1))
   refine bodyPost_ret (results_ct rfl _ _ gb377 25 #[.slice Ao17 t379.length co17, .slice Ao21 t382.length co21] (0, 0) _ rfl (by (with_reducible repeat (first | refine kN ?_ _ | refine kD ?_ | refine kA ?_ _)); refine blk_put (cs := #[.slice Ao17 t379.length co17, .slice none 0 0]) ?_ 1 _ rfl; (with_reducible repeat (first | refine kN ?_ _ | refine kD ?_ | refine kA ?_ _)); refine blk_put (cs := #[.slice none 0 0, .slice none 0 0]) ?_ 0 _ rfl; (with_reducible repeat (first | refine kN ?_ _ | refine kD ?_ | refine kA ?_ _)); exact BK377.out) Try.underlying25 rfl (by kernel_rfl)) rfl ?_
   exact ⟨_, _, by first | rfl | (simp [*] <;> rfl), zF HO381 BK377 (.slice Ao17 t379.length co17) (.slice Ao21 t382.length co21) 0 1, zF HO384 BK377 (.slice Ao17 t379.length co17) (.slice Ao21 t382.length co21) 0 1, zB_ HB⟩
  replace c8 := Bool.eq_false_iff.mpr c8; subst c8
  have H1 : (some (([] : List Int), ([] : List Int), false)) = some (r1, r2, r3) := by rw [if_neg (show ¬ (false = true) by decide)] at H; exact H
  clear H; have H := H1; clear H1; simp only [Option.some.injEq, Prod.mk.injEq] at H; obtain ⟨rfl, rfl, rfl⟩ := H
  go_enter Try.func9, Try.ntmps9
  go_wp2_with (first | ((with_reducible refine gD (N := 3) rfl ?_); refine box_event ?hg (N := 3) ?hd (cs := #[.slice A0_0 l0_0.length c0_0, .slice A0_1 l0_1.length c0_1]) (t := 25) ?hr ?_; (case hd => rfl); (case hg => rfl); (case hr => first | (go_simp; done) | (go_simp; rfl)); intro gb376 hg w27 hbox hb; have BK376 := A0_ (hbox); have GW376 := zG hg HB; have GE376 := zG hg HB; replace HB := zB HB hb; clear hb hbox hg) | ((with_reducible refine gD (N := 6) rfl ?_); refine box_event ?hg (N := 6) ?hd (cs := #[.slice none 0 0, .slice none 0 0]) (t := 25) ?hr ?_; (case hd => rfl); (case hg => rfl); (case hr => first | (go_simp; done) | (go_simp; rfl)); intro gb377 hg w28 hbox hb; have BK377 := A0_ (hbox); have GW377 := zG hg HB; have GE377 := zG hg HB; replace HB := zB HB hb; have NB376_377 := zL hg BK376; have NB377_376 := zM hg BK376; replace BK376 := zK BK376 hb; clear hb hbox hg; have hnb29 := NB376_377.out; have hnc29 := NB377_376.out; have hcz30_0 : w28.cell? ⟨gb376, 0, none⟩ = some (.slice A0_0 l0_0.length c0_0) := (kC BK376.out 0).trans rfl; have hcz30_1 : w28.cell? ⟨gb376, 1, none⟩ = some (.slice A0_1 l0_1.length c0_1) := (kC BK376.out 1).trans rfl; have hfz30_0 := kF BK376.out 0; have hfz30_1 := kF BK376.out 1) | ((with_reducible refine gC (f := 15) rfl ?_); refine goesL_ (some 12) rfl rfl Try.func15 (by kernel_rfl) rfl #[.agg #[.slice A0_0 l0_0.length c0_0, .slice A0_1 l0_1.length c0_1], .int .i64 a1, .slice A2 l2.length c2] rfl (by (try simp only [List.map_toArray, List.map_cons, List.map_nil]); first | done | rfl) ?_; (with_reducible refine (impl_VoltageValid.calls k _ _ l0_0 _ _ l0_1 a1 _ _ l2 true _ ?side1 ?side2 ?side3 ?side4 ?side5 ?side6 A4.out).mono ?_); (case side1 => repeat (first | exact (cB HR0_0.out HB.out) | (with_reducible refine cA ?_ _) | (with_reducible refine cN ?_ _) | (with_reducible refine cD ?_))); (case side2 => exact HC0_0.out); (case side3 => repeat (first | exact (cB HR0_1.out HB.out) | (with_reducible refine cA ?_ _) | (with_reducible refine cN ?_ _) | (with_reducible refine cD ?_))); (case side4 => exact HC0_1.out); (case side5 => repeat (first | exact (cB HR2.out HB.out) | (with_reducible refine cA ?_ _) | (with_reducible refine cN ?_ _) | (with_reducible refine cD ?_))); (case side6 => exact HC2.out); rintro e w31 ⟨rfl, hb⟩; refine ⟨_, rfl, ?_⟩; replace BK376 := zK BK376 hb; replace BK377 := zK BK377 hb; replace HB := zB HB hb; (try clear hb); have hcz32_0 : w31.cell? ⟨gb376, 0, none⟩ = some (.slice A0_0 l0_0.length c0_0) := (kC BK376.out 0).trans rfl; have hcz32_1 : w31.cell? ⟨gb376, 1, none⟩ = some (.slice A0_1 l0_1.length c0_1) := (kC BK376.out 1).trans rfl; have hfz32_0 := kF BK376.out 0; have hfz32_1 := kF BK376.out 1) | ((with_reducible refine gC (f := 26) rfl ?_); refine goesL_ (some 18) rfl rfl Try.func26 (by kernel_rfl) rfl #[.agg #[.slice A0_0 l0_0.length c0_0, .slice A0_1 l0_1.length c0_1], .int .i64 a1, .slice A2 l2.length c2] rfl (by (try simp only [List.map_toArray, List.map_cons, List.map_nil]); first | done | rfl) ?_; (with_reducible refine (impl_cover.calls k _ _ l0_0 _ _ l0_1 a1 _ _ l2 t379 t382 _ ?side1 ?side2 ?side3 ?side4 ?side5 ?side6 A6.out).mono ?_); (case side1 => repeat (first | exact (cB HR0_0.out HB.out) | (with_reducible refine cA ?_ _) | (with_reducible refine cN ?_ _) | (with_reducible refine cD ?_))); (case side2 => exact HC0_0.out); (case side3 => repeat (first | exact (cB HR0_1.out HB.out) | (with_reducible refine cA ?_ _) | (with_reducible refine cN ?_ _) | (with_reducible refine cD ?_))); (case side4 => exact HC0_1.out); (case side5 => repeat (first | exact (cB HR2.out HB.out) | (with_reducible refine cA ?_ _) | (with_reducible refine cN ?_ _) | (with_reducible refine cD ?_))); (case side6 => exact HC2.out); rintro e w33 ⟨v380, v383, rfl, ho0, ho1, hb⟩; refine ⟨_, rfl, ?_⟩; have HO381 := A0_ (rL ho0 (bZ (zB_ HB))); have HO384 := A0_ (rL ho1 (bZ (zB_ HB))); replace BK376 := zK BK376 hb; replace BK377 := zK BK377 hb; replace HB := zB HB hb; (try clear hb); (try clear ho0); (try clear ho1)) | ((with_reducible refine gD (N := 8) rfl ?_); refine box_event ?hg (N := 8) ?hd (cs := #[.slice none 0 0, .slice none 0 0]) (t := 25) ?hr ?_; (case hd => rfl); (case hg => rfl); (case hr => first | (go_simp; done) | (go_simp; rfl)); intro gb385 hg w34 hbox hb; replace HO381 := zR HO381 hb; replace HO384 := zR HO384 hb; have BK385 := A0_ (hbox); have GW385 := zG hg HB; have GE385 := zG hg HB; replace HB := zB HB hb; have NB376_385 := zL hg BK376; have NB385_376 := zM hg BK376; replace BK376 := zK BK376 hb; have NB377_385 := zL hg BK377; have NB385_377 := zM hg BK377; replace BK377 := zK BK377 hb; clear hb hbox hg; obtain ⟨Ao35, co35, eo35⟩ := rS HO381.out; subst eo35; have hnb36 := NB385_376.out; have hnc36 := NB376_385.out; have hnb37 := NB385_377.out; have hnc37 := NB377_385.out; have hcz38_0 : w34.cell? ⟨gb385, 0, none⟩ = some (.slice none 0 0) := (kC BK385.out 0).trans rfl; have hcz38_1 : w34.cell? ⟨gb385, 1, none⟩ = some (.slice none 0 0) := (kC BK385.out 1).trans rfl; have hfz38_0 := kF BK385.out 0; have hfz38_1 := kF BK385.out 1; obtain ⟨Ao39, co39, eo39⟩ := rS HO384.out; subst eo39) | ((with_reducible refine gS (t := 25) (p := 8) rfl ?_); refine store_event (t := 25) (p := 8) (v := ?vo_w40) (w1 := ((w34.setCell ⟨gb385, 0, none⟩ (.slice Ao35 t379.length co35)).setCell ⟨gb385, 1, none⟩ (.slice Ao39 t382.length co39))) ?hg ?ho ?hn ?hr ?_; (case ho => rfl); (case hg => rfl); (case hn => rfl); (case hr => first | (go_simp; done) | (go_simp; rfl)); intro w40 hw; replace HO381 : Aside0 (Kd.R (Kd.int .i64) 3 w40 w.heap.size (fun k_ => some k_ ≠ (.slice Ao39 t382.length co39 : Value).ownBlock) (.slice Ao35 t379.length co35) t379) := ⟨(by rw [hw]; exact (zF HO381 BK385 (.slice Ao35 t379.length co35) (.slice Ao39 t382.length co39) 0 1))⟩; replace HO384 : Aside0 (Kd.R (Kd.int .i64) 3 w40 w.heap.size (fun k_ => some k_ ≠ (.slice Ao35 t379.length co35 : Value).ownBlock) (.slice Ao39 t382.length co39) t382) := ⟨(by rw [hw]; exact (zF HO384 BK385 (.slice Ao35 t379.length co35) (.slice Ao39 t382.length co39) 0 1))⟩; replace BK376 : Aside0 (w40.heap[gb376]? = some (.cells #[.slice A0_0 l0_0.length c0_0, .slice A0_1 l0_1.length c0_1] 25 (0, 0))) := ⟨(by rw [hw]; exact (by (with_reducible repeat (first | refine kN ?_ _ | refine kD ?_ | refine kA ?_ _)); refine blk_far ?_ NB376_385.out _; (with_reducible repeat (first | refine kN ?_ _ | refine kD ?_ | refine kA ?_ _)); refine blk_far ?_ NB376_385.out _; (with_reducible repeat (first | refine kN ?_ _ | refine kD ?_ | refine kA ?_ _)); exact BK376.out))⟩; replace BK377 : Aside0 (w40.heap[gb377]? = some (.cells #[.slice none 0 0, .slice none 0 0] 25 (0, 0))) := ⟨(by rw [hw]; exact (by (with_reducible repeat (first | refine kN ?_ _ | refine kD ?_ | refine kA ?_ _)); refine blk_far ?_ NB377_385.out _; (with_reducible repeat (first | refine kN ?_ _ | refine kD ?_ | refine kA ?_ _)); refine blk_far ?_ NB377_385.out _; (with_reducible repeat (first | refine kN ?_ _ | refine kD ?_ | refine kA ?_ _)); exact BK377.out))⟩; replace BK385 : Aside0 (w40.heap[gb385]? = some (.cells #[.slice Ao35 t379.length co35, .slice Ao39 t382.length co39] 25 (0, 0))) := ⟨(by rw [hw]; exact (by (with_reducible repeat (first | refine kN ?_ _ | refine kD ?_ | refine kA ?_ _)); refine blk_put (cs := #[.slice Ao35 t379.length co35, .slice none 0 0]) ?_ 1 _ rfl; (with_reducible repeat (first | refine kN ?_ _ | refine kD ?_ | refine kA ?_ _)); refine blk_put (cs := #[.slice none 0 0, .slice none 0 0]) ?_ 0 _ rfl; (with_reducible repeat (first | refine kN ?_ _ | refine kD ?_ | refine kA ?_ _)); exact BK385.out))⟩; replace HB : Aside0 (Below w.heap.size w w40) := ⟨(by rw [hw]; exact (zB_ HB))⟩; clear hw; have hcz41_0 : w40.cell? ⟨gb385, 0, none⟩ = some (.slice Ao35 t379.length co35) := (kC BK385.out 0).trans rfl; have hcz41_1 : w40.cell? ⟨gb385, 1, none⟩ = some (.slice Ao39 t382.length co39) := (kC BK385.out 1).trans rfl; have hfz41_0 := kF BK385.out 0; have hfz41_1 := kF BK385.out 1) | ((with_reducible refine gC (f := 27) rfl ?_); refine goesL_ (some 20) rfl rfl Try.func27 (by kernel_rfl) rfl #[.agg #[.slice Ao35 t379.length co35, .slice Ao39 t382.length co39]] rfl (by (try simp only [List.map_toArray, List.map_cons, List.map_nil]); first | done | rfl) ?_; (with_reducible refine (impl_MapValid.calls k (fun k_ => some k_ = (.slice Ao35 t379.length co35 : Value).ownBlock) _ _ t379 (fun k_ => some k_ = (.slice Ao39 t382.length co39 : Value).ownBlock) _ _ t382 false _ ?side1 ?side2 A7.out).mono ?_); (case side1 => exact Kd.R_V (Kd.R_tight rfl (rY (rY (rY (HO381.out) BK376.out (by decide)) BK377.out (by decide)) BK385.out (by decide)))); (case side2 => exact Kd.R_V (Kd.R_tight rfl (rY (rY (rY (HO384.out) BK376.out (by decide)) BK377.out (by decide)) BK385.out (by decide)))); rintro e w42 ⟨rfl, hb⟩; refine ⟨_, rfl, ?_⟩; replace HO381 := zR HO381 hb; replace HO384 := zR HO384 hb; replace BK376 := zK BK376 hb; replace BK377 := zK BK377 hb; replace BK385 := zK BK385 hb; replace HB := zB HB hb; (try clear hb); have hcz43_0 : w42.cell? ⟨gb377, 0, none⟩ = some (.slice none 0 0) := (kC BK377.out 0).trans rfl; have hcz43_1 : w42.cell? ⟨gb377, 1, none⟩ = some (.slice none 0 0) := (kC BK377.out 1).trans rfl; have hfz43_0 := kF BK377.out 0; have hfz43_1 := kF BK377.out 1))
  refine bodyPost_ret (results_ct rfl _ _ gb377 25 #[.slice none 0 0, .slice none 0 0] (0, 0) _ rfl (by (with_reducible repeat (first | refine kN ?_ _ | refine kD ?_ | refine kA ?_ _)); refine blk_put (cs := #[.slice none 0 0, .slice none 0 0]) ?_ 1 _ rfl; (with_reducible repeat (first | refine kN ?_ _ | refine kD ?_ | refine kA ?_ _)); refine blk_put (cs := #[.slice none 0 0, .slice none 0 0]) ?_ 0 _ rfl; (with_reducible repeat (first | refine kN ?_ _ | refine kD ?_ | refine kA ?_ _)); exact BK377.out) Try.underlying25 rfl (by kernel_rfl)) rfl ?_
  exact ⟨_, _, by first | rfl | (simp [*] <;> rfl), by first | exact Kd.R_nil _ _ _ _ _ | exact Kd.N_nil _ _ _ _ _ | exact Kd.V_nil _ _ _ _ _ | exact Kd.Q_nil _ _ _ _ _ | exact Kd.S_nil _ _ _ _ _, by first | exact Kd.R_nil _ _ _ _ _ | exact Kd.N_nil _ _ _ _ _ | exact Kd.V_nil _ _ _ _ _ | exact Kd.Q_nil _ _ _ _ _ | exact Kd.S_nil _ _ _ _ _, zB_ HB⟩
 replace c5 := Bool.eq_false_iff.mpr c5; subst c5
 have H1 : (some (([] : List Int), ([] : List Int), false)) = some (r1, r2, r3) := by rw [if_neg (show ¬ (false = true) by decide)] at H; exact H
 clear H; have H := H1; clear H1; simp only [Option.some.injEq, Prod.mk.injEq] at H; obtain ⟨rfl, rfl, rfl⟩ := H
 go_enter Try.func9, Try.ntmps9
 go_wp2_with (first | ((with_reducible refine gD (N := 3) rfl ?_); refine box_event ?hg (N := 3) ?hd (cs := #[.slice A0_0 l0_0.length c0_0, .slice A0_1 l0_1.length c0_1]) (t := 25) ?hr ?_; (case hd => rfl); (case hg => rfl); (case hr => first | (go_simp; done) | (go_simp; rfl)); intro gb376 hg w44 hbox hb; have BK376 := A0_ (hbox); have GW376 := zG hg HB; have GE376 := zG hg HB; replace HB := zB HB hb; clear hb hbox hg) | ((with_reducible refine gD (N := 6) rfl ?_); refine box_event ?hg (N := 6) ?hd (cs := #[.slice none 0 0, .slice none 0 0]) (t := 25) ?hr ?_; (case hd => rfl); (case hg => rfl); (case hr => first | (go_simp; done) | (go_simp; rfl)); intro gb377 hg w45 hbox hb; have BK377 := A0_ (hbox); have GW377 := zG hg HB; have GE377 := zG hg HB; replace HB := zB HB hb; have NB376_377 := zL hg BK376; have NB377_376 := zM hg BK376; replace BK376 := zK BK376 hb; clear hb hbox hg; have hnb46 := NB376_377.out; have hnc46 := NB377_376.out; have hcz47_0 : w45.cell? ⟨gb376, 0, none⟩ = some (.slice A0_0 l0_0.length c0_0) := (kC BK376.out 0).trans rfl; have hcz47_1 : w45.cell? ⟨gb376, 1, none⟩ = some (.slice A0_1 l0_1.length c0_1) := (kC BK376.out 1).trans rfl; have hfz47_0 := kF BK376.out 0; have hfz47_1 := kF BK376.out 1) | ((with_reducible refine gC (f := 15) rfl ?_); refine goesL_ (some 12) rfl rfl Try.func15 (by kernel_rfl) rfl #[.agg #[.slice A0_0 l0_0.length c0_0, .slice A0_1 l0_1.length c0_1], .int .i64 a1, .slice A2 l2.length c2] rfl (by (try simp only [List.map_toArray, List.map_cons, List.map_nil]); first | done | rfl) ?_; (with_reducible refine (impl_VoltageValid.calls k _ _ l0_0 _ _ l0_1 a1 _ _ l2 false _ ?side1 ?side2 ?side3 ?side4 ?side5 ?side6 A4.out).mono ?_); (case side1 => repeat (first | exact (cB HR0_0.out HB.out) | (with_reducible refine cA ?_ _) | (with_reducible refine cN ?_ _) | (with_reducible refine cD ?_))); (case side2 => exact HC0_0.out); (case side3 => repeat (first | exact (cB HR0_1.out HB.out) | (with_reducible refine cA ?_ _) | (with_reducible refine cN ?_ _) | (with_reducible refine cD ?_))); (case side4 => exact HC0_1.out); (case side5 => repeat (first | exact (cB HR2.out HB.out) | (with_reducible refine cA ?_ _) | (with_reducible refine cN ?_ _) | (with_reducible refine cD ?_))); (case side6 => exact HC2.out); rintro e w48 ⟨rfl, hb⟩; refine ⟨_, rfl, ?_⟩; replace BK376 := zK BK376 hb; replace BK377 := zK BK377 hb; replace HB := zB HB hb; (try clear hb); have hcz49_0 : w48.cell? ⟨gb377, 0, none⟩ = some (.slice none 0 0) := (kC BK377.out 0).trans rfl; have hcz49_1 : w48.cell? ⟨gb377, 1, none⟩ = some (.slice none 0 0) := (kC BK377.out 1).trans rfl; have hfz49_0 := kF BK377.out 0; have hfz49_1 := kF BK377.out 1))
 refine bodyPost_ret (results_ct rfl _ _ gb377 25 #[.slice none 0 0, .slice none 0 0] (0, 0) _ rfl (by (with_reducible repeat (first | refine kN ?_ _ | refine kD ?_ | refine kA ?_ _)); refine blk_put (cs := #[.slice none 0 0, .slice none 0 0]) ?_ 1 _ rfl; (with_reducible repeat (first | refine kN ?_ _ | refine kD ?_ | refine kA ?_ _)); refine blk_put (cs := #[.slice none 0 0, .slice none 0 0]) ?_ 0 _ rfl; (with_reducible repeat (first | refine kN ?_ _ | refine kD ?_ | refine kA ?_ _)); exact BK377.out) Try.underlying25 rfl (by kernel_rfl)) rfl ?_
 exact ⟨_, _, by first | rfl | (simp [*] <;> rfl), by first | exact Kd.R_nil _ _ _ _ _ | exact Kd.N_nil _ _ _ _ _ | exact Kd.V_nil _ _ _ _ _ | exact Kd.Q_nil _ _ _ _ _ | exact Kd.S_nil _ _ _ _ _, by first | exact Kd.R_nil _ _ _ _ _ | exact Kd.N_nil _ _ _ _ _ | exact Kd.V_nil _ _ _ _ _ | exact Kd.Q_nil _ _ _ _ _ | exact Kd.S_nil _ _ _ _ _, zB_ HB⟩

/-! ### impl_mul: function 29 -/
def impl_mul.l0 : Nat → List Int → List Int → List Int → Int → Int → Option (List Int)
  | 0, _, _, _, _, _ => none
  | k + 1, x1, x5, x11, x12, x13 => if x13 < x12 then (if 0 ≤ x13 then (if x13 < (x11.length : Int) then (if 0 ≤ (rd x11 x13) then (if (rd x11 x13) < (x1.length : Int) then (if x13 < (x5.length : Int) then (impl_mul.l0 k x1 (x5.set (x13 : Int).toNat (rd x1 (rd x11 x13))) x11 x12 (wrap64 (x13 + 1))) else (none)) else (none)) else (none)) else (none)) else (none)) else (some x5)
def impl_mul.f (k : Nat) (l0 : List Int) (l1 : List Int) : Option (List Int) := if 0 ≤ (l0.length : Int) then (if ((l0.length : Int) : Int).toNat ≤ 35184372088832 then (impl_mul.l0 k l1 (List.replicate ((l0.length : Int) : Int).toNat 0) l0 (l0.length : Int) 0) else (none)) else (none)
set_option maxHeartbeats 8000000 in
set_option maxRecDepth 100000 in
theorem impl_mul.calls (k : Nat) (A0 : Option Addr) (c0 : Nat) (l0 : List Int) (A1 : Option Addr) (c1 : Nat) (l1 : List Int) (r : List Int) (w : World) (hr0 : Kd.C (Kd.int .i64) w A0 l0.length l0) (hc0 : l0.length ≤ c0) (hr1 : Kd.C (Kd.int .i64) w A1 l1.length l1) (hc1 : l1.length ≤ c1) (h : impl_mul.f k l0 l1 = some r) :
    Calls Try.prog 29 #[.slice A0 l0.length c0, .slice A1 l1.length c1] w fun e w' => ∃ v0_ : Value, e = .returned (v0_) ∧ Kd.R (Kd.int .i64) 3 w' w.heap.size (fun _ => True) v0_ r ∧ Below w.heap.size w w' := by
 have HR0 := A0_ hr0; have HC0 := A0_ hc0; clear hr0 hc0; have HR1 := A0_ hr1; have HC1 := A0_ hc1; clear hr1 hc1
 have HB := A0_ (Below.refl w.heap.size w)
 have H : (if 0 ≤ (l0.length : Int) then (if ((l0.length : Int) : Int).toNat ≤ 35184372088832 then (impl_mul.l0 k l1 (List.replicate ((l0.length : Int) : Int).toNat 0) l0 (l0.length : Int) 0) else (none)) else (none)) = some r := h
 clear h
 by_cases c3 : 0 ≤ (l0.length : Int)
 ·rw [if_pos c3] at H
  have c3b0 := eq_true c3
  have c3b1 : decide (0 ≤ (l0.length : Int)) = true := dT c3
  clear c3
  by_cases c4 : ((l0.length : Int) : Int).toNat ≤ 35184372088832
  ·rw [if_pos c4] at H
   have c4b0 := eq_true c4
   have c4b1 : decide (((l0.length : Int) : Int).toNat ≤ 35184372088832) = true := dT c4
   clear c4
   obtain ⟨y387, hy387⟩ : ∃ y_ : List Int, y_ = (List.replicate ((l0.length : Int) : Int).toNat 0) := ⟨_, rfl⟩
   replace H : (impl_mul.l0 k l1 y387 l0 (l0.length : Int) 0) = some r := by first | (rw [hy387]; with_reducible exact H) | (have H2_ := (Option.bind_some _ _).symm.trans H; rw [hy387]; with_reducible exact H2_) | (have H2_ := (Option.bind_some _ _).symm.trans H; with_reducible exact H2_) | with_reducible exact H | (rw [hy387]; exact H) | exact H
   have Ny387 := A0_ hy387; clear hy387; have H' := A0_ H; clear H
   go_enter Try.func29, Try.ntmps29
   go_wp2_with (first | ((with_reducible refine gD (N := 10) rfl ?_); refine Kd.R_make (Kd.int .i64) _ 3 rfl (N := 10) rfl 23 _ _ rfl (l0.length : Int) rfl rfl Try.underlying23 (.int .i64 0) 8 info3 rfl (by decide) (by omega) 0 (ok := fun _ => True) (okp := fun _ => True) rfl (fun _ hk => hk) trivial (oD (by assumption)) (Nat.le_trans (Nat.mul_le_mul_right _ (oD (by assumption) : (l0.length : Int).toNat ≤ 35184372088832)) (by omega)) (Below.refl _ _) (Nat.le_refl _) ?_; intro v388 w5 ho6 hb hg_ hnew_; clear hg_ hnew_; (first | rw [← Ny387.out] at ho6 | (simp only [Int.reduceToNat] at ho6; rw [← Ny387.out] at ho6)); have HO389 := A0_ (rL ho6 (bZ (zB_ HB))); replace HB := zB HB hb; clear hb ho6))
   go_loopg [13] k (fun kq v13 w' => ∃ (x5_1 : List Int) (x13_1 : Int), v13 = .int .i64 x13_1 ∧ Aside0 (impl_mul.l0 kq l1 x5_1 l0 (l0.length : Int) x13_1 = some r) ∧ Aside0 (kq ≤ k) ∧ Aside0 (Kd.R (Kd.int .i64) 3 w' w.heap.size (fun _ => True) v388 x5_1) ∧ Aside0 (Below w.heap.size w w'))
   case atStart => exact ⟨(y387), (0), zt, H', ⟨Nat.le_refl _⟩, ⟨zR_ HO389⟩, ⟨zB_ HB⟩⟩
   case round =>
    clear H'; (try clear c1); (try clear c2); (try clear p2); (try clear c3); (try clear c3b0); (try clear c3b1); (try clear c4); (try clear c4b0); (try clear c4b1); obtain ⟨x5_1, x13_1, rfl, HA, HK1, HO_5, HB⟩ := hrel
    cases gk with
    | zero => exact absurd HA.out (by simp [impl_mul.l0])
    | succ k1 =>
     have H := HA.out; clear HA; simp only [impl_mul.l0] at H
     by_cases c7 : x13_1 < (l0.length : Int)
     ·rw [if_pos c7] at H
      have c7b0 : decide (x13_1 < (l0.length : Int)) = true := dT c7
      clear c7
      by_cases c8 : 0 ≤ x13_1
      ·rw [if_pos c8] at H
       have c8b0 : decide (0 ≤ x13_1) = true := dT c8
       clear c8
       by_cases c9 : x13_1 < (l0.length : Int)
       ·rw [if_pos c9] at H
        have c9b0 : decide (x13_1 < (l0.length : Int)) = true := dT c9
        clear c9
        by_cases c10 : 0 ≤ (rd l0 x13_1)
        ·rw [if_pos c10] at H
         have c10b0 : decide (0 ≤ (rd l0 x13_1)) = true := dT c10
         clear c10
         by_cases c11 : (rd l0 x13_1) < (l1.length : Int)
         ·rw [if_pos c11] at H
          have c11b0 : decide ((rd l0 x13_1) < (l1.length : Int)) = true := dT c11
          clear c11
          by_cases c12 : x13_1 < (x5_1.length : Int)
          ·rw [if_pos c12] at H
           have c12b0 : decide (x13_1 < (x5_1.length : Int)) = true := dT c12
           clear c12
           obtain ⟨y392, hy392⟩ : ∃ y_ : List Int, y_ = (x5_1.set (x13_1 : Int).toNat (rd l1 (rd l0 x13_1))) := ⟨_, rfl⟩
           replace H : (impl_mul.l0 k1 l1 y392 l0 (l0.length : Int) (wrap64 (x13_1 + 1))) = some r := by first | (rw [hy392]; with_reducible exact H) | (have H2_ := (Option.bind_some _ _).symm.trans H; rw [hy392]; with_reducible exact H2_) | (have H2_ := (Option.bind_some _ _).symm.trans H; with_reducible exact H2_) | with_reducible exact H | (rw [hy392]; exact H) | exact H
           have Ny392 := A0_ hy392; clear hy392; have H' := A0_ H; clear H
           have p390 : 0 ≤ (x13_1 : Int) := oD (by assumption)
           have q390 : x13_1 < (l0.length : Int) := oD (by assumption)
           obtain ⟨ad390, e390, hx390_0⟩ := tI HR0.out x13_1 p390 q390
           cases e390
           replace hx390_0 := (HB.out.cell (wL w _ hx390_0)).trans hx390_0
           replace p390 := eq_true p390; replace q390 := eq_true q390
           have p391 : 0 ≤ ((rd l0 x13_1) : Int) := oD (by assumption)
           have q391 : (rd l0 x13_1) < (l1.length : Int) := oD (by assumption)
           obtain ⟨ad391, e391, hx391_0⟩ := tI HR1.out (rd l0 x13_1) p391 q391
           cases e391
           replace hx391_0 := (HB.out.cell (wL w _ hx391_0)).trans hx391_0
           replace p391 := eq_true p391; replace q391 := eq_true q391
           have p13 : 0 ≤ (x13_1 : Int) := oD (by assumption)
           have q13 : (x13_1 : Int) < ((x5_1.length : Int) : Int) := oD (by assumption)
           obtain ⟨go13, co13, eo13, gb13, gl13, cl13, HG13⟩ := Kd.R_form HO_5.out (by omega)
           (first | cases eo13 | (injection eo13 with ea_ en_ ec_; (first | subst ea_ | (injection ea_ with ea_; subst ea_)); subst ec_; clear en_))
           have GB13 := A0_ gb13; have GG13 := A0_ HG13; clear gb13 gl13 HG13
           obtain ⟨hx13_0, hf13_0⟩ := Kd.R_celln 0 HO_5.out (x13_1 : Int) p13 q13
           replace p13 := eq_true p13; replace q13 := eq_true q13
           have HP14 := Kd.R_putg HO_5.out (x13_1 : Int) (rd l1 (rd l0 x13_1))
           go_wp2_with (first | ((with_reducible refine gS (t := 3) (p := 24) rfl ?_); refine store_event (t := 3) (p := 24) (v := ?vo_w15) (w1 := (wr.setCell ⟨go13, (x13_1 : Int).toNat, none⟩ (.int .i64 (rd l1 (rd l0 x13_1))))) ?hg ?ho ?hn ?hr ?_; (case ho => rfl); (case hg => rfl); (case hn => rfl); (case hr => first | (go_simp; done) | (go_simp; rfl)); intro w15 hw; have hg : wr.grownBy w15 (some go13) := (by rw [hw]; exact HP14.2); have hp_ : Kd.R (Kd.int .i64) 3 w15 w.heap.size (fun _ => True) (.slice (some ⟨go13, 0, none⟩) x5_1.length co13) y392 := (by rw [hw, Ny392.out]; exact HP14.1); clear HP14; replace HO_5 := A0_ (hp_); replace HB := A0_ ((by rw [hw]; exact bS (HB.out) GB13.out : Below w.heap.size w w15)); clear hg hw hp_))
           go_roundg k1
           case measure => have := HK1.out; omega
           case rel => exact ⟨(y392), (wrap64 (x13_1 + 1)), zt, H', ⟨by have := HK1.out; omega⟩, ⟨zR_ HO_5⟩, ⟨zB_ HB⟩⟩
          rw [if_neg c12] at H
          exact absurd H (by simp)
         rw [if_neg c11] at H
         exact absurd H (by simp)
        rw [if_neg c10] at H
        exact absurd H (by simp)
       rw [if_neg c9] at H
       exact absurd H (by simp)
      rw [if_neg c8] at H
      exact absurd H (by simp)
     rw [if_neg c7] at H
     have c7b0 : decide (x13_1 < (l0.length : Int)) = false := dF c7
     clear c7; obtain rfl := sI H
     go_wp2
     go_ret
     exact ⟨_, by first | rfl | (simp [*] <;> rfl), zR_ HO_5, zB_ HB⟩
  rw [if_neg c4] at H
  exact absurd H (by simp)
 rw [if_neg c3] at H
 exact absurd H (by simp)

/-! ### impl_renamed: function 28 -/
def impl_renamed.f (k : Nat) (l0_0 : List Int) (l0_1 : List Int) (l1 : List Int) : Option (List Int × List Int) := (impl_back.f k l1).bind fun t395 => ((impl_mul.f k t395 l0_0).bind fun t398 => ((impl_mul.f k t398 l1).bind fun t401 => ((impl_back.f k l1).bind fun t404 => ((impl_mul.f k t404 l0_1).bind fun t407 => ((impl_mul.f k t407 l1).bind fun t410 => (some (t401, t410)))))))
def impl_renamed.T1 : Bool × List (List Nat × List Nat) := (true, [([], []), ([0], [0]), ([], []), ([2], [2]), ([1, 3, 1], [1, 3]), ([], []), ([4, 5, 4], [4, 5]), ([], []), ([7, 6], [7]), ([], []), ([9], [9]), ([8, 10, 8], [8, 10]), ([], []), ([11, 12, 11], [11, 12]), ([6, 13], [6, 13]), ([14, 13, 0, 1, 2, 3, 4, 5, 6, 7, 8, 9, 10, 11, 12, 13, 14], [14])])
def impl_renamed.B1 : List Nat := [0, 1, 0, 4, 15, 0, 63, 0, 255, 0, 512, 2047, 0, 8191, 16383, 32767]
theorem impl_renamed.tab1 : rtab .any (opsOf Try.f28 1) = impl_renamed.T1 := by kernel_rfl
theorem impl_renamed.bits1 : waitsOk impl_renamed.T1.2 impl_renamed.B1 = true := by kernel_rfl
set_option maxHeartbeats 8000000 in
set_option maxRecDepth 100000 in
theorem impl_renamed.calls (k : Nat) (A0_0 : Option Addr) (c0_0 : Nat) (l0_0 : List Int) (A0_1 : Option Addr) (c0_1 : Nat) (l0_1 : List Int) (A1 : Option Addr) (c1 : Nat) (l1 : List Int) (r1 : List Int) (r2 : List Int) (w : World) (hr0_0 : Kd.C (Kd.int .i64) w A0_0 l0_0.length l0_0) (hc0_0 : l0_0.length ≤ c0_0) (hr0_1 : Kd.C (Kd.int .i64) w A0_1 l0_1.length l0_1) (hc0_1 : l0_1.length ≤ c0_1) (hr1 : Kd.C (Kd.int .i64) w A1 l1.length l1) (hc1 : l1.length ≤ c1) (h : impl_renamed.f k l0_0 l0_1 l1 = some (r1, r2)) :
    Calls Try.prog 28 #[.agg #[.slice A0_0 l0_0.length c0_0, .slice A0_1 l0_1.length c0_1], .slice A1 l1.length c1] w fun e w' => ∃ v0_ v1_ : Value, e = .returned (.agg #[v0_, v1_]) ∧ Kd.R (Kd.int .i64) 3 w' w.heap.size (fun k_ => some k_ ≠ (v1_ : Value).ownBlock) v0_ r1 ∧ Kd.R (Kd.int .i64) 3 w' w.heap.size (fun k_ => some k_ ≠ (v0_ : Value).ownBlock) v1_ r2 ∧ Below w.heap.size w w' := by
 have hu25 := Try.underlying25; have HR0_0 := A0_ hr0_0; have HC0_0 := A0_ hc0_0; clear hr0_0 hc0_0; have HR0_1 := A0_ hr0_1; have HC0_1 := A0_ hc0_1; clear hr0_1 hc0_1; have HR1 := A0_ hr1; have HC1 := A0_ hc1; clear hr1 hc1
 have HB := A0_ (Below.refl w.heap.size w)
 have H : ((impl_back.f k l1).bind fun t395 => ((impl_mul.f k t395 l0_0).bind fun t398 => ((impl_mul.f k t398 l1).bind fun t401 => ((impl_back.f k l1).bind fun t404 => ((impl_mul.f k t404 l0_1).bind fun t407 => ((impl_mul.f k t407 l1).bind fun t410 => (some (t401, t410)))))))) = some (r1, r2) := h
 clear h; obtain ⟨t395, A3, H⟩ := zbind H; obtain ⟨t398, A4, H⟩ := zbind H; obtain ⟨t401, A5, H⟩ := zbind H; obtain ⟨t404, A6, H⟩ := zbind H; obtain ⟨t407, A7, H⟩ := zbind H; obtain ⟨t410, A8, H⟩ := zbind H; simp only [Option.some.injEq, Prod.mk.injEq] at H; obtain ⟨rfl, rfl⟩ := H
 go_enter Try.func28, Try.ntmps28
 try go_wp2_with (first | ((with_reducible refine gD (N := 2) rfl ?_); refine box_event ?hg (N := 2) ?hd (cs := #[.slice A0_0 l0_0.length c0_0, .slice A0_1 l0_1.length c0_1]) (t := 25) ?hr ?_; (case hd => rfl); (case hg => rfl); (case hr => first | (go_simp; done) | (go_simp; rfl)); intro gb393 hg w9 hbox hb; have BK393 := A0_ (hbox); have GW393 := zG hg HB; have GE393 := zG hg HB; replace HB := zB HB hb; clear hb hbox hg) | ((with_reducible refine gD (N := 4) rfl ?_); refine box_event ?hg (N := 4) ?hd (cs := #[.slice none 0 0, .slice none 0 0]) (t := 25) ?hr ?_; (case hd => rfl); (case hg => rfl); (case hr => first | (go_simp; done) | (go_simp; rfl)); intro gb394 hg w10 hbox hb; have BK394 := A0_ (hbox); have GW394 := zG hg HB; have GE394 := zG hg HB; replace HB := zB HB hb; have NB393_394 := zL hg BK393; have NB394_393 := zM hg BK393; replace BK393 := zK BK393 hb; clear hb hbox hg))
 replace BK393 := A0_ (kD BK393.out)
 replace BK394 := A0_ (kD BK394.out)
 replace HB := A0_ (bD HB.out)
 refine start_ (n := 16) (S := fun w' => w'.cell? ⟨gb393, 0, none⟩ = some (.slice A0_0 l0_0.length c0_0) ∧ w'.cell? ⟨gb393, 1, none⟩ = some (.slice A0_1 l0_1.length c0_1)) (ds := []) #[false, false, false, false, false, false, false, false, false, false, false, false, false, false, false, false] (by kernel_rfl) rfl rfl ⟨(kC BK393.out 0).trans rfl, (kC BK393.out 1).trans rfl⟩ (fun hHeld => ?_); refine with_tabW impl_renamed.tab1 impl_renamed.bits1 (fun HT_ HW_ => ?_)
 generalize w10.drew = w11 at BK393 BK394 HB hHeld ⊢
 refine pure_ (i := 0) (N := some 5) (v := ?_) (a' := ?_) #[true, false, false, false, false, false, false, false, false, false, false, false, false, false, false, false] rfl rfl (any_of HT_.out (by kernel_rfl)) (fun _ _ _ h => h) (Or.inl ⟨by rfl, ?_⟩) ?_ ?_
 rotate_left
 ·intro w'
  go_simp
  with_reducible rfl
 rotate_left
 ·simp only [Act.put, List.setIfInBounds_toArray, List.set_cons_zero, List.set_cons_succ, i64_w, i32_w]
  rfl
 refine pure_ (i := 2) (N := some 7) (v := ?_) (a' := ?_) #[true, false, true, false, false, false, false, false, false, false, false, false, false, false, false, false] rfl rfl (any_of HT_.out (by kernel_rfl)) (fun _ _ _ h => h) (Or.inl ⟨by rfl, ?_⟩) ?_ ?_
 rotate_left
 ·intro w'
  go_simp
  with_reducible rfl
 rotate_left
 ·simp only [Act.put, List.setIfInBounds_toArray, List.set_cons_zero, List.set_cons_succ, i64_w, i32_w]
  rfl
 refine pure_ (i := 5) (N := some 10) (v := ?_) (a' := ?_) #[true, false, true, false, false, true, false, false, false, false, false, false, false, false, false, false] rfl rfl (any_of HT_.out (by kernel_rfl)) (fun _ _ _ h => h) (Or.inl ⟨by rfl, ?_⟩) ?_ ?_
 rotate_left
 ·intro w'
  go_simp
  with_reducible rfl
 rotate_left
 ·simp only [Act.put, List.setIfInBounds_toArray, List.set_cons_zero, List.set_cons_succ, i64_w, i32_w]
  rfl
 refine pure_ (i := 7) (N := some 12) (v := ?_) (a' := ?_) #[true, false, true, false, false, true, false, true, false, false, false, false, false, false, false, false] rfl rfl (any_of HT_.out (by kernel_rfl)) (fun _ _ _ h => h) (Or.inl ⟨by rfl, ?_⟩) ?_ ?_
 rotate_left
 ·intro w'
  go_simp
  with_reducible rfl
 rotate_left
 ·simp only [Act.put, List.setIfInBounds_toArray, List.set_cons_zero, List.set_cons_succ, i64_w, i32_w]
  rfl
 refine pure_ (i := 9) (N := some 14) (v := ?_) (a' := ?_) #[true, false, true, false, false, true, false, true, false, true, false, false, false, false, false, false] rfl rfl (any_of HT_.out (by kernel_rfl)) (fun _ _ _ h => h) (Or.inl ⟨by rfl, ?_⟩) ?_ ?_
 rotate_left
 ·intro w'
  go_simp
  with_reducible rfl
 rotate_left
 ·simp only [Act.put, List.setIfInBounds_toArray, List.set_cons_zero, List.set_cons_succ, i64_w, i32_w]
  rfl
 refine pure_ (i := 12) (N := some 17) (v := ?_) (a' := ?_) #[true, false, true, false, false, true, false, true, false, true, false, false, true, false, false, false] rfl rfl (any_of HT_.out (by kernel_rfl)) (fun _ _ _ h => h) (Or.inl ⟨by rfl, ?_⟩) ?_ ?_
 rotate_left
 ·intro w'
  go_simp
  with_reducible rfl
 rotate_left
 ·simp only [Act.put, List.setIfInBounds_toArray, List.set_cons_zero, List.set_cons_succ, i64_w, i32_w]
  rfl
 refine take_ (i := 3) (N := some 8) (v := ?_) (a' := ?_) #[true, false, true, true, false, true, false, true, false, true, false, false, true, false, false, false] rfl rfl (take_ofW HT_.out HW_.out (by kernel_rfl)) (fun _ _ _ h => h) (Or.inl ⟨by rfl, ?_⟩) hHeld ?_ ?_
 rotate_left
 ·rintro w' ⟨s0, s1⟩
  go_simp
  with_reducible rfl
 rotate_left
 ·simp only [Act.put, List.setIfInBounds_toArray, List.set_cons_zero, List.set_cons_succ, i64_w, i32_w]
  rfl
 refine take_ (i := 10) (N := some 15) (v := ?_) (a' := ?_) #[true, false, true, true, false, true, false, true, false, true, true, false, true, false, false, false] rfl rfl (take_ofW HT_.out HW_.out (by kernel_rfl)) (fun _ _ _ h => h) (Or.inl ⟨by rfl, ?_⟩) hHeld ?_ ?_
 rotate_left
 ·rintro w' ⟨s0, s1⟩
  go_simp
  with_reducible rfl
 rotate_left
 ·simp only [Act.put, List.setIfInBounds_toArray, List.set_cons_zero, List.set_cons_succ, i64_w, i32_w]
  rfl
 refine one_ (i := 1) (N := some 6) #[true, true, true, true, false, true, false, true, false, true, true, false, true, false, false, false] rfl rfl (one_of HT_.out (by kernel_rfl)) (by decide) (fun K hK => ?_)
 refine goes_ Try.func39 (by kernel_rfl) rfl #[.slice A1 l1.length c1] (by rfl) rfl rfl (by (try simp only [List.map_toArray, List.map_cons, List.map_nil]); first | done | rfl | (simp only [List.length_drop, List.length_take]; rfl)) ?_
 with_reducible refine (impl_back.calls k _ _ l1 t395 _ ?side1 ?side2 A3.out).mono ?_
 (case side1 => repeat (first | exact (cB HR1.out HB.out) | (with_reducible refine cA ?_ _) | (with_reducible refine cN ?_ _) | (with_reducible refine cD ?_)))
 (case side2 => exact HC1.out)
 rintro e w12 ⟨v396, rfl, ho0, hb⟩
 refine ⟨_, rfl, ?_⟩
 have HO397 := A0_ (rL ho0 (bZ (zB_ HB)))
 replace BK393 := zK BK393 hb; replace BK394 := zK BK394 hb; replace HB := zB HB hb; (try clear hb); (try clear hb2); (try clear hk); (try clear hi); (try clear ho0); obtain ⟨Ao13, co13, eo13⟩ := rS HO397.out
 (first | subst eo13 | (injection eo13 with f1_ f2_ f3_; have f4_ := f1_.symm; have f5_ := f3_.symm; clear f1_ f2_ f3_; subst f4_; subst f5_))
 refine hK.out _ _ ⟨(kC BK393.out 0).trans rfl, (kC BK393.out 1).trans rfl⟩ (fun hHeld => ?_)
 clear hK K
 refine norm_ (a' := ?_) ?_ ?_
 rotate_left
 ·show Act.put _ (some 6) _ = _
  simp only [Act.put, List.setIfInBounds_toArray, List.set_cons_zero, List.set_cons_succ, i64_w, i32_w]
  rfl
 refine one_ (i := 4) (N := some 9) #[true, true, true, true, true, true, false, true, false, true, true, false, true, false, false, false] rfl rfl (one_of HT_.out (by kernel_rfl)) (by decide) (fun K hK => ?_)
 refine goes_ Try.func29 (by kernel_rfl) rfl #[.slice Ao13 t395.length co13, .slice A0_0 l0_0.length c0_0] (by rfl) rfl rfl (by (try simp only [List.map_toArray, List.map_cons, List.map_nil]); first | done | rfl | (simp only [List.length_drop, List.length_take]; rfl)) ?_
 with_reducible refine (impl_mul.calls k _ _ t395 _ _ l0_0 t398 _ ?side1 ?side2 ?side3 ?side4 A4.out).mono ?_
 (case side1 => repeat (first | exact (rR HO397.out).2.2 | (with_reducible refine cA ?_ _) | (with_reducible refine cN ?_ _) | (with_reducible refine cD ?_)))
 (case side2 => exact (rR HO397.out).2.1)
 (case side3 => repeat (first | exact (cB HR0_0.out HB.out) | (with_reducible refine cA ?_ _) | (with_reducible refine cN ?_ _) | (with_reducible refine cD ?_)))
 (case side4 => exact HC0_0.out)
 rintro e w14 ⟨v399, rfl, ho0, hb⟩
 refine ⟨_, rfl, ?_⟩
 have HO400 := A0_ (rL (Kd.R_new' ho0 (rX (zR_ HO397))) (bZ (zB_ HB)))
 replace HO397 := A0_ (Kd.R_elder' (zR_ HO397) (Kd.R_base ho0) hb)
 replace BK393 := zK BK393 hb; replace BK394 := zK BK394 hb; replace HB := zB HB hb; (try clear hb); (try clear hb2); (try clear hk); (try clear hi); (try clear ho0); obtain ⟨Ao15, co15, eo15⟩ := rS HO400.out
 (first | subst eo15 | (injection eo15 with f1_ f2_ f3_; have f4_ := f1_.symm; have f5_ := f3_.symm; clear f1_ f2_ f3_; subst f4_; subst f5_))
 refine hK.out _ _ ⟨(kC BK393.out 0).trans rfl, (kC BK393.out 1).trans rfl⟩ (fun hHeld => ?_)
 clear hK K
 refine norm_ (a' := ?_) ?_ ?_
 rotate_left
 ·show Act.put _ (some 9) _ = _
  simp only [Act.put, List.setIfInBounds_toArray, List.set_cons_zero, List.set_cons_succ, i64_w, i32_w]
  rfl
 refine one_ (i := 6) (N := some 11) #[true, true, true, true, true, true, true, true, false, true, true, false, true, false, false, false] rfl rfl (one_of HT_.out (by kernel_rfl)) (by decide) (fun K hK => ?_)
 refine goes_ Try.func29 (by kernel_rfl) rfl #[.slice Ao15 t398.length co15, .slice A1 l1.length c1] (by rfl) rfl rfl (by (try simp only [List.map_toArray, List.map_cons, List.map_nil]); first | done | rfl | (simp only [List.length_drop, List.length_take]; rfl)) ?_
 with_reducible refine (impl_mul.calls k _ _ t398 _ _ l1 t401 _ ?side1 ?side2 ?side3 ?side4 A5.out).mono ?_
 (case side1 => repeat (first | exact (rR HO400.out).2.2 | (with_reducible refine cA ?_ _) | (with_reducible refine cN ?_ _) | (with_reducible refine cD ?_)))
 (case side2 => exact (rR HO400.out).2.1)
 (case side3 => repeat (first | exact (cB HR1.out HB.out) | (with_reducible refine cA ?_ _) | (with_reducible refine cN ?_ _) | (with_reducible refine cD ?_)))
 (case side4 => exact HC1.out)
 rintro e w16 ⟨v402, rfl, ho0, hb⟩
 refine ⟨_, rfl, ?_⟩
 have HO403 := A0_ (rL (Kd.R_new' (Kd.R_new' ho0 (rX (zR_ HO397))) (rX (zR_ HO400))) (bZ (zB_ HB)))
 replace HO397 := A0_ (Kd.R_elder' (zR_ HO397) (Kd.R_base ho0) hb)
 replace HO400 := A0_ (Kd.R_elder' (zR_ HO400) (Kd.R_base ho0) hb)
 replace BK393 := zK BK393 hb; replace BK394 := zK BK394 hb; replace HB := zB HB hb; (try clear hb); (try clear hb2); (try clear hk); (try clear hi); (try clear ho0)
 refine hK.out _ _ ⟨(kC BK393.out 0).trans rfl, (kC BK393.out 1).trans rfl⟩ (fun hHeld => ?_)
 clear hK K
 refine norm_ (a' := ?_) ?_ ?_
 rotate_left
 ·show Act.put _ (some 11) _ = _
  simp only [Act.put, List.setIfInBounds_toArray, List.set_cons_zero, List.set_cons_succ, i64_w, i32_w]
  rfl
 refine one_ (i := 8) (N := some 13) #[true, true, true, true, true, true, true, true, true, true, true, false, true, false, false, false] rfl rfl (one_of HT_.out (by kernel_rfl)) (by decide) (fun K hK => ?_)
 refine goes_ Try.func39 (by kernel_rfl) rfl #[.slice A1 l1.length c1] (by rfl) rfl rfl (by (try simp only [List.map_toArray, List.map_cons, List.map_nil]); first | done | rfl | (simp only [List.length_drop, List.length_take]; rfl)) ?_
 with_reducible refine (impl_back.calls k _ _ l1 t404 _ ?side1 ?side2 A6.out).mono ?_
 (case side1 => repeat (first | exact (cB HR1.out HB.out) | (with_reducible refine cA ?_ _) | (with_reducible refine cN ?_ _) | (with_reducible refine cD ?_)))
 (case side2 => exact HC1.out)
 rintro e w17 ⟨v405, rfl, ho0, hb⟩
 refine ⟨_, rfl, ?_⟩
 have HO406 := A0_ (rL (Kd.R_new' (Kd.R_new' (Kd.R_new' ho0 (rX (zR_ HO397))) (rX (zR_ HO400))) (rX (zR_ HO403))) (bZ (zB_ HB)))
 replace HO397 := A0_ (Kd.R_elder' (zR_ HO397) (Kd.R_base ho0) hb)
 replace HO400 := A0_ (Kd.R_elder' (zR_ HO400) (Kd.R_base ho0) hb)
 replace HO403 := A0_ (Kd.R_elder' (zR_ HO403) (Kd.R_base ho0) hb)
 replace BK393 := zK BK393 hb; replace BK394 := zK BK394 hb; replace HB := zB HB hb; (try clear hb); (try clear hb2); (try clear hk); (try clear hi); (try clear ho0); obtain ⟨Ao18, co18, eo18⟩ := rS HO406.out
 (first | subst eo18 | (injection eo18 with f1_ f2_ f3_; have f4_ := f1_.symm; have f5_ := f3_.symm; clear f1_ f2_ f3_; subst f4_; subst f5_))
 refine hK.out _ _ ⟨(kC BK393.out 0).trans rfl, (kC BK393.out 1).trans rfl⟩ (fun hHeld => ?_)
 clear hK K
 refine norm_ (a' := ?_) ?_ ?_
 rotate_left
 ·show Act.put _ (some 13) _ = _
  simp only [Act.put, List.setIfInBounds_toArray, List.set_cons_zero, List.set_cons_succ, i64_w, i32_w]
  rfl
 refine one_ (i := 11) (N := some 16) #[true, true, true, true, true, true, true, true, true, true, true, true, true, false, false, false] rfl rfl (one_of HT_.out (by kernel_rfl)) (by decide) (fun K hK => ?_)
 refine goes_ Try.func29 (by kernel_rfl) rfl #[.slice Ao18 t404.length co18, .slice A0_1 l0_1.length c0_1] (by rfl) rfl rfl (by (try simp only [List.map_toArray, List.map_cons, List.map_nil]); first | done | rfl | (simp only [List.length_drop, List.length_take]; rfl)) ?_
 with_reducible refine (impl_mul.calls k _ _ t404 _ _ l0_1 t407 _ ?side1 ?side2 ?side3 ?side4 A7.out).mono ?_
 (case side1 => repeat (first | exact (rR HO406.out).2.2 | (with_reducible refine cA ?_ _) | (with_reducible refine cN ?_ _) | (with_reducible refine cD ?_)))
 (case side2 => exact (rR HO406.out).2.1)
 (case side3 => repeat (first | exact (cB HR0_1.out HB.out) | (with_reducible refine cA ?_ _) | (with_reducible refine cN ?_ _) | (with_reducible refine cD ?_)))
 (case side4 => exact HC0_1.out)
 rintro e w19 ⟨v408, rfl, ho0, hb⟩
 refine ⟨_, rfl, ?_⟩
 have HO409 := A0_ (rL (Kd.R_new' (Kd.R_new' (Kd.R_new' (Kd.R_new' ho0 (rX (zR_ HO397))) (rX (zR_ HO400))) (rX (zR_ HO403))) (rX (zR_ HO406))) (bZ (zB_ HB)))
 replace HO397 := A0_ (Kd.R_elder' (zR_ HO397) (Kd.R_base ho0) hb)
 replace HO400 := A0_ (Kd.R_elder' (zR_ HO400) (Kd.R_base ho0) hb)
 replace HO403 := A0_ (Kd.R_elder' (zR_ HO403) (Kd.R_base ho0) hb)
 replace HO406 := A0_ (Kd.R_elder' (zR_ HO406) (Kd.R_base ho0) hb)
 replace BK393 := zK BK393 hb; replace BK394 := zK BK394 hb; replace HB := zB HB hb; (try clear hb); (try clear hb2); (try clear hk); (try clear hi); (try clear ho0); obtain ⟨Ao20, co20, eo20⟩ := rS HO409.out
 (first | subst eo20 | (injection eo20 with f1_ f2_ f3_; have f4_ := f1_.symm; have f5_ := f3_.symm; clear f1_ f2_ f3_; subst f4_; subst f5_))
 refine hK.out _ _ ⟨(kC BK393.out 0).trans rfl, (kC BK393.out 1).trans rfl⟩ (fun hHeld => ?_)
 clear hK K
 refine norm_ (a' := ?_) ?_ ?_
 rotate_left
 ·show Act.put _ (some 16) _ = _
  simp only [Act.put, List.setIfInBounds_toArray, List.set_cons_zero, List.set_cons_succ, i64_w, i32_w]
  rfl
 refine one_ (i := 13) (N := some 18) #[true, true, true, true, true, true, true, true, true, true, true, true, true, true, false, false] rfl rfl (one_of HT_.out (by kernel_rfl)) (by decide) (fun K hK => ?_)
 refine goes_ Try.func29 (by kernel_rfl) rfl #[.slice Ao20 t407.length co20, .slice A1 l1.length c1] (by rfl) rfl rfl (by (try simp only [List.map_toArray, List.map_cons, List.map_nil]); first | done | rfl | (simp only [List.length_drop, List.length_take]; rfl)) ?_
 with_reducible refine (impl_mul.calls k _ _ t407 _ _ l1 t410 _ ?side1 ?side2 ?side3 ?side4 A8.out).mono ?_
 (case side1 => repeat (first | exact (rR HO409.out).2.2 | (with_reducible refine cA ?_ _) | (with_reducible refine cN ?_ _) | (with_reducible refine cD ?_)))
 (case side2 => exact (rR HO409.out).2.1)
 (case side3 => repeat (first | exact (cB HR1.out HB.out) | (with_reducible refine cA ?_ _) | (with_reducible refine cN ?_ _) | (with_reducible refine cD ?_)))
 (case side4 => exact HC1.out)
 rintro e w21 ⟨v411, rfl, ho0, hb⟩
 refine ⟨_, rfl, ?_⟩
 have HO412 := A0_ (rL (Kd.R_new' (Kd.R_new' (Kd.R_new' (Kd.R_new' (Kd.R_new' ho0 (rX (zR_ HO397))) (rX (zR_ HO400))) (rX (zR_ HO403))) (rX (zR_ HO406))) (rX (zR_ HO409))) (bZ (zB_ HB)))
 replace HO397 := A0_ (Kd.R_elder' (zR_ HO397) (Kd.R_base ho0) hb)
 replace HO400 := A0_ (Kd.R_elder' (zR_ HO400) (Kd.R_base ho0) hb)
 replace HO403 := A0_ (Kd.R_elder' (zR_ HO403) (Kd.R_base ho0) hb)
 replace HO406 := A0_ (Kd.R_elder' (zR_ HO406) (Kd.R_base ho0) hb)
 replace HO409 := A0_ (Kd.R_elder' (zR_ HO409) (Kd.R_base ho0) hb)
 replace BK393 := zK BK393 hb; replace BK394 := zK BK394 hb; replace HB := zB HB hb; (try clear hb); (try clear hb2); (try clear hk); (try clear hi); (try clear ho0); obtain ⟨Ao22, co22, eo22⟩ := rS HO412.out
 (first | subst eo22 | (injection eo22 with f1_ f2_ f3_; have f4_ := f1_.symm; have f5_ := f3_.symm; clear f1_ f2_ f3_; subst f4_; subst f5_))
 obtain ⟨Ao23, co23, eo23⟩ := rS HO403.out
 (first | subst eo23 | (injection eo23 with f1_ f2_ f3_; have f4_ := f1_.symm; have f5_ := f3_.symm; clear f1_ f2_ f3_; subst f4_; subst f5_))
 refine hK.out _ _ ⟨(kC BK393.out 0).trans rfl, (kC BK393.out 1).trans rfl⟩ (fun hHeld => ?_)
 clear hK K
 refine norm_ (a' := ?_) ?_ ?_
 rotate_left
 ·show Act.put _ (some 18) _ = _
  simp only [Act.put, List.setIfInBounds_toArray, List.set_cons_zero, List.set_cons_succ, i64_w, i32_w]
  rfl
 refine pure_ (i := 14) (N := some 19) (v := ?_) (a' := ?_) #[true, true, true, true, true, true, true, true, true, true, true, true, true, true, true, false] rfl rfl (any_of HT_.out (by kernel_rfl)) (fun _ _ _ h => h) (Or.inl ⟨by rfl, ?_⟩) ?_ ?_
 rotate_left
 ·intro w'
  go_simp
  with_reducible rfl
 rotate_left
 ·simp only [Act.put, List.setIfInBounds_toArray, List.set_cons_zero, List.set_cons_succ, i64_w, i32_w]
  rfl
 refine one_ (i := 15) (N := none) #[true, true, true, true, true, true, true, true, true, true, true, true, true, true, true, true] rfl rfl (one_of HT_.out (by kernel_rfl)) (by decide) (fun K hK => ?_)
 have hs24 : w21.cell? ⟨gb394, 0, none⟩ = some (.slice none 0 0) := (kC BK394.out 0).trans rfl
 have hfs24 := kF BK394.out 0; have hns24_0 := NB393_394.out; have hms24_0 := NB394_393.out
 have hs25 : w21.cell? ⟨gb394, 1, none⟩ = some (.slice none 0 0) := (kC BK394.out 1).trans rfl
 have hfs25 := kF BK394.out 1; have hns25_0 := NB393_394.out; have hms25_0 := NB394_393.out
 refine skip_ (w1 := ?_) (by rfl) rfl ?_ ?_
 rotate_left
 ·go_simp
  rfl
 refine hK.out _ _ ⟨((cell_far (p := ⟨gb394, _, none⟩) NB393_394.out _).trans (((cell_far (p := ⟨gb394, _, none⟩) NB393_394.out _).trans (hHeld.1)))), ((cell_far (p := ⟨gb394, _, none⟩) NB393_394.out _).trans (((cell_far (p := ⟨gb394, _, none⟩) NB393_394.out _).trans (hHeld.2))))⟩ (fun hHeld => ?_)
 clear hK K
 refine done_ (done_of HT_.out (by kernel_rfl)) ?_
 try go_wp2
 refine bodyPost_ret (results_cell_row rfl _ _ gb394 25 #[.slice Ao23 t401.length co23, .slice Ao22 t410.length co22] (0, 0) _ rfl (by (with_reducible repeat (first | refine kN ?_ _ | refine kD ?_ | refine kA ?_ _)); refine blk_put (cs := #[.slice Ao23 t401.length co23, .slice none 0 0]) ?_ 1 _ rfl; (with_reducible repeat (first | refine kN ?_ _ | refine kD ?_ | refine kA ?_ _)); refine blk_put (cs := #[.slice none 0 0, .slice none 0 0]) ?_ 0 _ rfl; (with_reducible repeat (first | refine kN ?_ _ | refine kD ?_ | refine kA ?_ _)); exact BK394.out) Try.underlying25 rfl (by kernel_rfl)) rfl ?_
 exact ⟨_, _, by first | rfl | (simp [*] <;> rfl), by (with_reducible repeat (first | apply rA | apply rN | apply rD)); exact rM (rF (p := ⟨gb394, 1, none⟩) (rF (p := ⟨gb394, 0, none⟩) (rY HO403.out BK394.out (by decide)) (fun _ hk => hk.2) (.slice Ao23 t401.length co23)) (fun _ hk => hk.2) (.slice Ao22 t410.length co22)) (fun _ hk => hk.1.2), by (with_reducible repeat (first | apply rA | apply rN | apply rD)); exact rM (rF (p := ⟨gb394, 1, none⟩) (rF (p := ⟨gb394, 0, none⟩) (rY HO412.out BK394.out (by decide)) (fun _ hk => hk.2) (.slice Ao23 t401.length co23)) (fun _ hk => hk.2) (.slice Ao22 t410.length co22)) (fun _ hk => hk.1.1.1.2), zB_ HB⟩

/-! ### impl_MapRename: function 11 -/
def impl_MapRename.f (k : Nat) (l0_0 : List Int) (l0_1 : List Int) (l1 : List Int) : Option (List Int × List Int × Bool) := (impl_MapValid.f k l0_0 l0_1).bind fun t415 => (if t415 = true then ((impl_PermValid.f l1).bind fun t416 => (if t416 = true then (if (l1.length : Int) = (l0_0.length : Int) then ((impl_renamed.f k l0_0 l0_1 l1).bind fun bt417 => (some (bt417.1, bt417.2, true))) else (some (([] : List Int), ([] : List Int), false))) else (some (([] : List Int), ([] : List Int), false)))) else (some (([] : List Int), ([] : List Int), false)))
set_option maxHeartbeats 8000000 in
set_option maxRecDepth 100000 in
theorem impl_MapRename.calls (k : Nat) (A0_0 : Option Addr) (c0_0 : Nat) (l0_0 : List Int) (A0_1 : Option Addr) (c0_1 : Nat) (l0_1 : List Int) (A1 : Option Addr) (c1 : Nat) (l1 : List Int) (r1 : List Int) (r2 : List Int) (r3 : Bool) (w : World) (hr0_0 : Kd.C (Kd.int .i64) w A0_0 l0_0.length l0_0) (hc0_0 : l0_0.length ≤ c0_0) (hr0_1 : Kd.C (Kd.int .i64) w A0_1 l0_1.length l0_1) (hc0_1 : l0_1.length ≤ c0_1) (hr1 : Kd.C (Kd.int .i64) w A1 l1.length l1) (hc1 : l1.length ≤ c1) (h : impl_MapRename.f k l0_0 l0_1 l1 = some (r1, r2, r3)) :
    Calls Try.prog 11 #[.agg #[.slice A0_0 l0_0.length c0_0, .slice A0_1 l0_1.length c0_1], .slice A1 l1.length c1] w fun e w' => ∃ v0_ v1_ : Value, e = .returned (.tuple #[.agg #[v0_, v1_], .bool r3]) ∧ Kd.R (Kd.int .i64) 3 w' w.heap.size (fun k_ => some k_ ≠ (v1_ : Value).ownBlock) v0_ r1 ∧ Kd.R (Kd.int .i64) 3 w' w.heap.size (fun k_ => some k_ ≠ (v0_ : Value).ownBlock) v1_ r2 ∧ Below w.heap.size w w' := by
 have hu25 := Try.underlying25; have HR0_0 := A0_ hr0_0; have HC0_0 := A0_ hc0_0; clear hr0_0 hc0_0; have HR0_1 := A0_ hr0_1; have HC0_1 := A0_ hc0_1; clear hr0_1 hc0_1; have HR1 := A0_ hr1; have HC1 := A0_ hc1; clear hr1 hc1
 have HB := A0_ (Below.refl w.heap.size w)
 have H : ((impl_MapValid.f k l0_0 l0_1).bind fun t415 => (if t415 = true then ((impl_PermValid.f l1).bind fun t416 => (if t416 = true then (if (l1.length : Int) = (l0_0.length : Int) then ((impl_renamed.f k l0_0 l0_1 l1).bind fun bt417 => (some (bt417.1, bt417.2, true))) else (some (([] : List Int), ([] : List Int), false))) else (some (([] : List Int), ([] : List Int), false)))) else (some (([] : List Int), ([] : List Int), false)))) = some (r1, r2, r3) := h
 clear h; obtain ⟨t415, A3, H⟩ := zbind H
 by_cases c4 : t415 = true
 ·subst c4
  have H1 : ((impl_PermValid.f l1).bind fun t416 => (if t416 = true then (if (l1.length : Int) = (l0_0.length : Int) then ((impl_renamed.f k l0_0 l0_1 l1).bind fun bt417 => (some (bt417.1, bt417.2, true))) else (some (([] : List Int), ([] : List Int), false))) else (some (([] : List Int), ([] : List Int), false)))) = some (r1, r2, r3) := by rw [if_pos rfl] at H; exact H
  clear H; have H := H1; clear H1; obtain ⟨t416, A5, H⟩ := zbind H
  by_cases c6 : t416 = true
  ·subst c6
   have H1 : (if (l1.length : Int) = (l0_0.length : Int) then ((impl_renamed.f k l0_0 l0_1 l1).bind fun bt417 => (some (bt417.1, bt417.2, true))) else (some (([] : List Int), ([] : List Int), false))) = some (r1, r2, r3) := by rw [if_pos rfl] at H; exact H
   clear H; have H := H1; clear H1
   by_cases c7 : (l1.length : Int) = (l0_0.length : Int)
   ·rw [if_pos c7] at H
    have c7b0 : ((l1.length : Int) == (l0_0.length : Int)) = true := beq_iff_eq.mpr c7
    have c7b1 : ((l1.length : Int) != (l0_0.length : Int)) = false := bne_eq_false_iff_eq.mpr c7
    have c7b2 : (l1.length == l0_0.length) = true := by first | simpa using c7 | (simp at c7 ⊢; omega)
    clear c7; obtain ⟨⟨t417, t420⟩, A8, H⟩ := zbind H; dsimp only at H; simp only [Option.some.injEq, Prod.mk.injEq] at H; obtain ⟨rfl, rfl, rfl⟩ := H
    go_enter Try.func11, Try.ntmps11
    go_wp2_with (first | ((with_reducible refine gD (N := 2) rfl ?_); refine box_event ?hg (N := 2) ?hd (cs := #[.slice A0_0 l0_0.length c0_0, .slice A0_1 l0_1.length c0_1]) (t := 25) ?hr ?_; (case hd => rfl); (case hg => rfl); (case hr => first | (go_simp; done) | (go_simp; rfl)); intro gb413 hg w9 hbox hb; have BK413 := A0_ (hbox); have GW413 := zG hg HB; have GE413 := zG hg HB; replace HB := zB HB hb; clear hb hbox hg) | ((with_reducible refine gD (N := 4) rfl ?_); refine box_event ?hg (N := 4) ?hd (cs := #[.slice none 0 0, .slice none 0 0]) (t := 25) ?hr ?_; (case hd => rfl); (case hg => rfl); (case hr => first | (go_simp; done) | (go_simp; rfl)); intro gb414 hg w10 hbox hb; have BK414 := A0_ (hbox); have GW414 := zG hg HB; have GE414 := zG hg HB; replace HB := zB HB hb; have NB413_414 := zL hg BK413; have NB414_413 := zM hg BK413; replace BK413 := zK BK413 hb; clear hb hbox hg; have hnb11 := NB413_414.out; have hnc11 := NB414_413.out; have hcz12_0 : w10.cell? ⟨gb413, 0, none⟩ = some (.slice A0_0 l0_0.length c0_0) := (kC BK413.out 0).trans rfl; have hcz12_1 : w10.cell? ⟨gb413, 1, none⟩ = some (.slice A0_1 l0_1.length c0_1) := (kC BK413.out 1).trans rfl; have hfz12_0 := kF BK413.out 0; have hfz12_1 := kF BK413.out 1) | ((with_reducible refine gC (f := 27) rfl ?_); refine goesL_ (some 7) rfl rfl Try.func27 (by kernel_rfl) rfl #[.agg #[.slice A0_0 l0_0.length c0_0, .slice A0_1 l0_1.length c0_1]] rfl (by (try simp only [List.map_toArray, List.map_cons, List.map_nil]); first | done | rfl) ?_; (with_reducible refine (impl_MapValid.calls k (fun k_ => k_ < w.heap.size) _ _ l0_0 (fun k_ => k_ < w.heap.size) _ _ l0_1 true _ ?side1 ?side2 A3.out).mono ?_); (case side1 => exact Kd.V_mk HC0_0.out (Kd.F_below (Kd.C_F (Kd.heap_int .i64) HR0_0.out) (zB_ HB))); (case side2 => exact Kd.V_mk HC0_1.out (Kd.F_below (Kd.C_F (Kd.heap_int .i64) HR0_1.out) (zB_ HB))); rintro e w13 ⟨rfl, hb⟩; refine ⟨_, rfl, ?_⟩; replace BK413 := zK BK413 hb; replace BK414 := zK BK414 hb; replace HB := zB HB hb; (try clear hb)) | (go_at_call 10; (with_reducible refine (impl_PermValid.calls _ _ l1 true _ ?side1 ?side2 A5.out).mono ?_); (case side1 => repeat (first | exact (cB HR1.out HB.out) | (with_reducible refine cA ?_ _) | (with_reducible refine cN ?_ _) | (with_reducible refine cD ?_))); (case side2 => exact HC1.out); rintro e w14 ⟨rfl, hb⟩; replace BK413 := zK BK413 hb; replace BK414 := zK BK414 hb; replace HB := zB HB hb; (try clear hb); have hcz15_0 : w14.cell? ⟨gb413, 0, none⟩ = some (.slice A0_0 l0_0.length c0_0) := (kC BK413.out 0).trans rfl; have hcz15_1 : w14.cell? ⟨gb413, 1, none⟩ = some (.slice A0_1 l0_1.length c0_1) := (kC BK413.out 1).trans rfl; have hfz15_0 := kF BK413.out 0; have hfz15_1 := kF BK413.out 1) | ((with_reducible refine gC (f := 28) rfl ?_); refine goesL_ (some 25) rfl rfl Try.func28 (by kernel_rfl) rfl #[.agg #[.slice A0_0 l0_0.length c0_0, .slice A0_1 l0_1.length c0_1], .slice A1 l1.length c1] rfl (by (try simp only [List.map_toArray, List.map_cons, List.map_nil]); first | done | rfl) ?_; (with_reducible refine (impl_renamed.calls k _ _ l0_0 _ _ l0_1 _ _ l1 t417 t420 _ ?side1 ?side2 ?side3 ?side4 ?side5 ?side6 A8.out).mono ?_); (case side1 => repeat (first | exact (cB HR0_0.out HB.out) | (with_reducible refine cA ?_ _) | (with_reducible refine cN ?_ _) | (with_reducible refine cD ?_))); (case side2 => exact HC0_0.out); (case side3 => repeat (first | exact (cB HR0_1.out HB.out) | (with_reducible refine cA ?_ _) | (with_reducible refine cN ?_ _) | (with_reducible refine cD ?_))); (case side4 => exact HC0_1.out); (case side5 => repeat (first | exact (cB HR1.out HB.out) | (with_reducible refine cA ?_ _) | (with_reducible refine cN ?_ _) | (with_reducible refine cD ?_))); (case side6 => exact HC1.out); rintro e w16 ⟨v418, v421, rfl, ho0, ho1, hb⟩; refine ⟨_, rfl, ?_⟩; have HO419 := A0_ (rL ho0 (bZ (zB_ HB))); have HO422 := A0_ (rL ho1 (bZ (zB_ HB))); replace BK413 := zK BK413 hb; replace BK414 := zK BK414 hb; replace HB := zB HB hb; (try clear hb); (try clear ho0); (try clear ho1); obtain ⟨Ao17, co17, eo17⟩ := rS HO419.out; subst eo17; have hcz18_0 : w16.cell? ⟨gb414, 0, none⟩ = some (.slice none 0 0) := (kC BK414.out 0).trans rfl; have hcz18_1 : w16.cell? ⟨gb414, 1, none⟩ = some (.slice none 0 0) := (kC BK414.out 1).trans rfl; have hfz18_0 := kF BK414.out 0; have hfz18_1 := kF BK414.out 1; obtain ⟨Ao19, co19, eo19⟩ := rS HO422.out; subst eo19))
    refine bodyPost_ret (results_ct rfl _ _ gb414 25 #[.slice Ao17 t417.length co17, .slice Ao19 t420.length co19] (0, 0) _ rfl (by (with_reducible repeat (first | refine kN ?_ _ | refine kD ?_ | refine kA ?_ _)); refine blk_put (cs := #[.slice Ao17 t417.length co17, .slice none 0 0]) ?_ 1 _ rfl; (with_reducible repeat (first | refine kN ?_ _ | refine kD ?_ | refine kA ?_ _)); refine blk_put (cs := #[.slice none 0 0, .slice none 0 0]) ?_ 0 _ rfl; (with_reducible repeat (first | refine kN ?_ _ | refine kD ?_ | refine kA ?_ _)); exact BK414.out) Try.underlying25 rfl (by kernel_rfl)) rfl ?_
    exact ⟨_, _, by first | rfl | (simp [*] <;> rfl), zF HO419 BK414 (.slice Ao17 t417.length co17) (.slice Ao19 t420.length co19) 0 1, zF HO422 BK414 (.slice Ao17 t417.length co17) (.slice Ao19 t420.length co19) 0 1, zB_ HB⟩
   rw [if_neg c7] at H
   have c7b0 : ((l1.length : Int) == (l0_0.length : Int)) = false := beq_eq_false_iff_ne.mpr c7
   have c7b1 : ((l1.length : Int) != (l0_0.length : Int)) = true := bne_iff_ne.mpr c7
   have c7b2 : (l1.length == l0_0.length) = false := by first | simpa using c7 | (simp at c7 ⊢; omega)
   simp only [Option.some.injEq, Prod.mk.injEq] at H; obtain ⟨rfl, rfl, rfl⟩ := H
   go_enter Try.func11, Try.ntmps11
   go_wp2_with (first | ((with_reducible refine gD (N := 2) rfl ?_); refine box_event ?hg (N := 2) ?hd (cs := #[.slice A0_0 l0_0.length c0_0, .slice A0_1 l0_1.length c0_1]) (t := 25) ?hr ?_; (case hd => rfl); (case hg => rfl); (case hr => first | (go_simp; done) | (go_simp; rfl)); intro gb413 hg w20 hbox hb; have BK413 := A0_ (hbox); have GW413 := zG hg HB; have GE413 := zG hg HB; replace HB := zB HB hb; clear hb hbox hg) | ((with_reducible refine gD (N := 4) rfl ?_); refine box_event ?hg (N := 4) ?hd (cs := #[.slice none 0 0, .slice none 0 0]) (t := 25) ?hr ?_; (case hd => rfl); (case hg => rfl); (case hr => first | (go_simp; done) | (go_simp; rfl)); intro gb414 hg w21 hbox hb; have BK414 := A0_ (hbox); have GW414 := zG hg HB; have GE414 := zG hg HB; replace HB := zB HB hb; have NB413_414 := zL hg BK413; have NB414_413 := zM hg BK413; replace BK413 := zK BK413 hb; clear hb hbox hg; have hnb22 := NB413_414.out; have hnc22 := NB414_413.out; have hcz23_0 : w21.cell? ⟨gb413, 0, none⟩ = some (.slice A0_0 l0_0.length c0_0) := (kC BK413.out 0).trans rfl; have hcz23_1 : w21.cell? ⟨gb413, 1, none⟩ = some (.slice A0_1 l0_1.length c0_1) := (kC BK413.out 1).trans rfl; have hfz23_0 := kF BK413.out 0; have hfz23_1 := kF BK413.out 1) | ((with_reducible refine gC (f := 27) rfl ?_); refine goesL_ (some 7) rfl rfl Try.func27 (by kernel_rfl) rfl #[.agg #[.slice A0_0 l0_0.length c0_0, .slice A0_1 l0_1.length c0_1]] rfl (by (try simp only [List.map_toArray, List.map_cons, List.map_nil]); first | done | rfl) ?_; (with_reducible refine (impl_MapValid.calls k (fun k_ => k_ < w.heap.size) _ _ l0_0 (fun k_ => k_ < w.heap.size) _ _ l0_1 true _ ?side1 ?side2 A3.out).mono ?_); (case side1 => exact Kd.V_mk HC0_0.out (Kd.F_below (Kd.C_F (Kd.heap_int .i64) HR0_0.out) (zB_ HB))); (case side2 => exact Kd.V_mk HC0_1.out (Kd.F_below (Kd.C_F (Kd.heap_int .i64) HR0_1.out) (zB_ HB))); rintro e w24 ⟨rfl, hb⟩; refine ⟨_, rfl, ?_⟩; replace BK413 := zK BK413 hb; replace BK414 := zK BK414 hb; replace HB := zB HB hb; (try clear hb)) | (go_at_call 10; (with_reducible refine (impl_PermValid.calls _ _ l1 true _ ?side1 ?side2 A5.out).mono ?_); (case side1 => repeat (first | exact (cB HR1.out HB.out) | (with_reducible refine cA ?_ _) | (with_reducible refine cN ?_ _) | (with_reducible refine cD ?_))); (case side2 => exact HC1.out); rintro e w25 ⟨rfl, hb⟩; replace BK413 := zK BK413 hb; replace BK414 := zK BK414 hb; replace HB := zB HB hb; (try clear hb); have hcz26_0 : w25.cell? ⟨gb413, 0, none⟩ = some (.slice A0_0 l0_0.length c0_0) := (kC BK413.out 0).trans rfl; have hcz26_1 : w25.cell? ⟨gb413, 1, none⟩ = some (.slice A0_1 l0_1.length c0_1) := (kC BK413.out 1).trans rfl; have hfz26_0 := kF BK413.out 0; have hfz26_1 := kF BK413.out 1; have hcz27_0 : w25.cell? ⟨gb414, 0, none⟩ = some (.slice none 0 0) := (kC BK414.out 0).trans rfl; have hcz27_1 : w25.cell? ⟨gb414, 1, none⟩ = some (.slice none 0 0) := (kC BK414.out 1).trans rfl; have hfz27_0 := kF BK414.out 0; have hfz27_1 := kF BK414.out 1))
   refine bodyPost_ret (results_ct rfl _ _ gb414 25 #[.slice none 0 0, .slice none 0 0] (0, 0) _ rfl (by (with_reducible repeat (first | refine kN ?_ _ | refine kD ?_ | refine kA ?_ _)); refine blk_put (cs := #[.slice none 0 0, .slice none 0 0]) ?_ 1 _ rfl; (with_reducible repeat (first | refine kN ?_ _ | refine kD ?_ | refine kA ?_ _)); refine blk_put (cs := #[.slice none 0 0, .slice none 0 0]) ?_ 0 _ rfl; (with_reducible repeat (first | refine kN ?_ _ | refine kD ?_ | refine kA ?_ _)); exact BK414.out) Try.underlying25 rfl (by kernel_rfl)) rfl ?_
   exact ⟨_, _, by first | rfl | (simp [*] <;> rfl), by first | exact Kd.R_nil _ _ _ _ _ | exact Kd.N_nil _ _ _ _ _ | exact Kd.V_nil _ _ _ _ _ | exact Kd.Q_nil _ _ _ _ _ | exact Kd.S_nil _ _ _ _ _, by first | exact Kd.R_nil _ _ _ _ _ | exact Kd.N_nil _ _ _ _ _ | exact Kd.V_nil _ _ _ _ _ | exact Kd.Q_nil _ _ _ _ _ | exact Kd.S_nil _ _ _ _ _, zB_ HB⟩
  replace c6 := Bool.eq_false_iff.mpr c6; subst c6
  have H1 : (some (([] : List Int), ([] : List Int), false)) = some (r1, r2, r3) := by rw [if_neg (show ¬ (false = true) by decide)] at H; exact H
  clear H; have H := H1; clear H1; simp only [Option.some.injEq, Prod.mk.injEq] at H; obtain ⟨rfl, rfl, rfl⟩ := H
  go_enter Try.func11, Try.ntmps11
  go_wp2_with (first | ((with_reducible refine gD (N := 2) rfl ?_); refine box_event ?hg (N := 2) ?hd (cs := #[.slice A0_0 l0_0.length c0_0, .slice A0_1 l0_1.length c0_1]) (t := 25) ?hr ?_; (case hd => rfl); (case hg => rfl); (case hr => first | (go_simp; done) | (go_simp; rfl)); intro gb413 hg w28 hbox hb; have BK413 := A0_ (hbox); have GW413 := zG hg HB; have GE413 := zG hg HB; replace HB := zB HB hb; clear hb hbox hg) | ((with_reducible refine gD (N := 4) rfl ?_); refine box_event ?hg (N := 4) ?hd (cs := #[.slice none 0 0, .slice none 0 0]) (t := 25) ?hr ?_; (case hd => rfl); (case hg => rfl); (case hr => first | (go_simp; done) | (go_simp; rfl)); intro gb414 hg w29 hbox hb; have BK414 := A0_ (hbox); have GW414 := zG hg HB; have GE414 := zG hg HB; replace HB := zB HB hb; have NB413_414 := zL hg BK413; have NB414_413 := zM hg BK413; replace BK413 := zK BK413 hb; clear hb hbox hg; have hnb30 := NB413_414.out; have hnc30 := NB414_413.out; have hcz31_0 : w29.cell? ⟨gb413, 0, none⟩ = some (.slice A0_0 l0_0.length c0_0) := (kC BK413.out 0).trans rfl; have hcz31_1 : w29.cell? ⟨gb413, 1, none⟩ = some (.slice A0_1 l0_1.length c0_1) := (kC BK413.out 1).trans rfl; have hfz31_0 := kF BK413.out 0; have hfz31_1 := kF BK413.out 1) | ((with_reducible refine gC (f := 27) rfl ?_); refine goesL_ (some 7) rfl rfl Try.func27 (by kernel_rfl) rfl #[.agg #[.slice A0_0 l0_0.length c0_0, .slice A0_1 l0_1.length c0_1]] rfl (by (try simp only [List.map_toArray, List.map_cons, List.map_nil]); first | done | rfl) ?_; (with_reducible refine (impl_MapValid.calls k (fun k_ => k_ < w.heap.size) _ _ l0_0 (fun k_ => k_ < w.heap.size) _ _ l0_1 true _ ?side1 ?side2 A3.out).mono ?_); (case side1 => exact Kd.V_mk HC0_0.out (Kd.F_below (Kd.C_F (Kd.heap_int .i64) HR0_0.out) (zB_ HB))); (case side2 => exact Kd.V_mk HC0_1.out (Kd.F_below (Kd.C_F (Kd.heap_int .i64) HR0_1.out) (zB_ HB))); rintro e w32 ⟨rfl, hb⟩; refine ⟨_, rfl, ?_⟩; replace BK413 := zK BK413 hb; replace BK414 := zK BK414 hb; replace HB := zB HB hb; (try clear hb)) | (go_at_call 10; (with_reducible refine (impl_PermValid.calls _ _ l1 false _ ?side1 ?side2 A5.out).mono ?_); (case side1 => repeat (first | exact (cB HR1.out HB.out) | (with_reducible refine cA ?_ _) | (with_reducible refine cN ?_ _) | (with_reducible refine cD ?_))); (case side2 => exact HC1.out); rintro e w33 ⟨rfl, hb⟩; replace BK413 := zK BK413 hb; replace BK414 := zK BK414 hb; replace HB := zB HB hb; (try clear hb); have hcz34_0 : w33.cell? ⟨gb414, 0, none⟩ = some (.slice none 0 0) := (kC BK414.out 0).trans rfl; have hcz34_1 : w33.cell? ⟨gb414, 1, none⟩ = some (.slice none 0 0) := (kC BK414.out 1).trans rfl; have hfz34_0 := kF BK414.out 0; have hfz34_1 := kF BK414.out 1))
  refine bodyPost_ret (results_ct rfl _ _ gb414 25 #[.slice none 0 0, .slice none 0 0] (0, 0) _ rfl (by (with_reducible repeat (first | refine kN ?_ _ | refine kD ?_ | refine kA ?_ _)); refine blk_put (cs := #[.slice none 0 0, .slice none 0 0]) ?_ 1 _ rfl; (with_reducible repeat (first | refine kN ?_ _ | refine kD ?_ | refine kA ?_ _)); refine blk_put (cs := #[.slice none 0 0, .slice none 0 0]) ?_ 0 _ rfl; (with_reducible repeat (first | refine kN ?_ _ | refine kD ?_ | refine kA ?_ _)); exact BK414.out) Try.underlying25 rfl (by kernel_rfl)) rfl ?_
  exact ⟨_, _, by first | rfl | (simp [*] <;> rfl), by first | exact Kd.R_nil _ _ _ _ _ | exact Kd.N_nil _ _ _ _ _ | exact Kd.V_nil _ _ _ _ _ | exact Kd.Q_nil _ _ _ _ _ | exact Kd.S_nil _ _ _ _ _, by first | exact Kd.R_nil _ _ _ _ _ | exact Kd.N_nil _ _ _ _ _ | exact Kd.V_nil _ _ _ _ _ | exact Kd.Q_nil _ _ _ _ _ | exact Kd.S_nil _ _ _ _ _, zB_ HB⟩
 replace c4 := Bool.eq_false_iff.mpr c4; subst c4
 have H1 : (some (([] : List Int), ([] : List Int), false)) = some (r1, r2, r3) := by rw [if_neg (show ¬ (false = true) by decide)] at H; exact H
 clear H; have H := H1; clear H1; simp only [Option.some.injEq, Prod.mk.injEq] at H; obtain ⟨rfl, rfl, rfl⟩ := H
 go_enter Try.func11, Try.ntmps11
 go_wp2_with (first | ((with_reducible refine gD (N := 2) rfl ?_); refine box_event ?hg (N := 2) ?hd (cs := #[.slice A0_0 l0_0.length c0_0, .slice A0_1 l0_1.length c0_1]) (t := 25) ?hr ?_; (case hd => rfl); (case hg => rfl); (case hr => first | (go_simp; done) | (go_simp; rfl)); intro gb413 hg w35 hbox hb; have BK413 := A0_ (hbox); have GW413 := zG hg HB; have GE413 := zG hg HB; replace HB := zB HB hb; clear hb hbox hg) | ((with_reducible refine gD (N := 4) rfl ?_); refine box_event ?hg (N := 4) ?hd (cs := #[.slice none 0 0, .slice none 0 0]) (t := 25) ?hr ?_; (case hd => rfl); (case hg => rfl); (case hr => first | (go_simp; done) | (go_simp; rfl)); intro gb414 hg w36 hbox hb; have BK414 := A0_ (hbox); have GW414 := zG hg HB; have GE414 := zG hg HB; replace HB := zB HB hb; have NB413_414 := zL hg BK413; have NB414_413 := zM hg BK413; replace BK413 := zK BK413 hb; clear hb hbox hg; have hnb37 := NB413_414.out; have hnc37 := NB414_413.out; have hcz38_0 : w36.cell? ⟨gb413, 0, none⟩ = some (.slice A0_0 l0_0.length c0_0) := (kC BK413.out 0).trans rfl; have hcz38_1 : w36.cell? ⟨gb413, 1, none⟩ = some (.slice A0_1 l0_1.length c0_1) := (kC BK413.out 1).trans rfl; have hfz38_0 := kF BK413.out 0; have hfz38_1 := kF BK413.out 1) | ((with_reducible refine gC (f := 27) rfl ?_); refine goesL_ (some 7) rfl rfl Try.func27 (by kernel_rfl) rfl #[.agg #[.slice A0_0 l0_0.length c0_0, .slice A0_1 l0_1.length c0_1]] rfl (by (try simp only [List.map_toArray, List.map_cons, List.map_nil]); first | done | rfl) ?_; (with_reducible refine (impl_MapValid.calls k (fun k_ => k_ < w.heap.size) _ _ l0_0 (fun k_ => k_ < w.heap.size) _ _ l0_1 false _ ?side1 ?side2 A3.out).mono ?_); (case side1 => exact Kd.V_mk HC0_0.out (Kd.F_below (Kd.C_F (Kd.heap_int .i64) HR0_0.out) (zB_ HB))); (case side2 => exact Kd.V_mk HC0_1.out (Kd.F_below (Kd.C_F (Kd.heap_int .i64) HR0_1.out) (zB_ HB))); rintro e w39 ⟨rfl, hb⟩; refine ⟨_, rfl, ?_⟩; replace BK413 := zK BK413 hb; replace BK414 := zK BK414 hb; replace HB := zB HB hb; (try clear hb); have hcz40_0 : w39.cell? ⟨gb414, 0, none⟩ = some (.slice none 0 0) := (kC BK414.out 0).trans rfl; have hcz40_1 : w39.cell? ⟨gb414, 1, none⟩ = some (.slice none 0 0) := (kC BK414.out 1).trans rfl; have hfz40_0 := kF BK414.out 0; have hfz40_1 := kF BK414.out 1))
 refine bodyPost_ret (results_ct rfl _ _ gb414 25 #[.slice none 0 0, .slice none 0 0] (0, 0) _ rfl (by (with_reducible repeat (first | refine kN ?_ _ | refine kD ?_ | refine kA ?_ _)); refine blk_put (cs := #[.slice none 0 0, .slice none 0 0]) ?_ 1 _ rfl; (with_reducible repeat (first | refine kN ?_ _ | refine kD ?_ | refine kA ?_ _)); refine blk_put (cs := #[.slice none 0 0, .slice none 0 0]) ?_ 0 _ rfl; (with_reducible repeat (first | refine kN ?_ _ | refine kD ?_ | refine kA ?_ _)); exact BK414.out) Try.underlying25 rfl (by kernel_rfl)) rfl ?_
 exact ⟨_, _, by first | rfl | (simp [*] <;> rfl), by first | exact Kd.R_nil _ _ _ _ _ | exact Kd.N_nil _ _ _ _ _ | exact Kd.V_nil _ _ _ _ _ | exact Kd.Q_nil _ _ _ _ _ | exact Kd.S_nil _ _ _ _ _, by first | exact Kd.R_nil _ _ _ _ _ | exact Kd.N_nil _ _ _ _ _ | exact Kd.V_nil _ _ _ _ _ | exact Kd.Q_nil _ _ _ _ _ | exact Kd.S_nil _ _ _ _ _, zB_ HB⟩

/-! ### impl_PermMul: function 12 -/
def impl_PermMul.f (k : Nat) (l0 : List Int) (l1 : List Int) : Option (List Int × Bool) := (impl_PermValid.f l0).bind fun t423 => (if t423 = true then ((impl_PermValid.f l1).bind fun t424 => (if t424 = true then (if (l0.length : Int) = (l1.length : Int) then ((impl_mul.f k l0 l1).bind fun t425 => (some (t425, true))) else (some (([] : List Int), false))) else (some (([] : List Int), false)))) else (some (([] : List Int), false)))
set_option maxHeartbeats 8000000 in
set_option maxRecDepth 100000 in
theorem impl_PermMul.calls (k : Nat) (A0 : Option Addr) (c0 : Nat) (l0 : List Int) (A1 : Option Addr) (c1 : Nat) (l1 : List Int) (r1 : List Int) (r2 : Bool) (w : World) (hr0 : Kd.C (Kd.int .i64) w A0 l0.length l0) (hc0 : l0.length ≤ c0) (hr1 : Kd.C (Kd.int .i64) w A1 l1.length l1) (hc1 : l1.length ≤ c1) (h : impl_PermMul.f k l0 l1 = some (r1, r2)) :
    Calls Try.prog 12 #[.slice A0 l0.length c0, .slice A1 l1.length c1] w fun e w' => ∃ v0_ : Value, e = .returned (.tuple #[v0_, .bool r2]) ∧ Kd.R (Kd.int .i64) 3 w' w.heap.size (fun _ => True) v0_ r1 ∧ Below w.heap.size w w' := by
 have HR0 := A0_ hr0; have HC0 := A0_ hc0; clear hr0 hc0; have HR1 := A0_ hr1; have HC1 := A0_ hc1; clear hr1 hc1
 have HB := A0_ (Below.refl w.heap.size w)
 have H : ((impl_PermValid.f l0).bind fun t423 => (if t423 = true then ((impl_PermValid.f l1).bind fun t424 => (if t424 = true then (if (l0.length : Int) = (l1.length : Int) then ((impl_mul.f k l0 l1).bind fun t425 => (some (t425, true))) else (some (([] : List Int), false))) else (some (([] : List Int), false)))) else (some (([] : List Int), false)))) = some (r1, r2) := h
 clear h; obtain ⟨t423, A3, H⟩ := zbind H
 by_cases c4 : t423 = true
 ·subst c4
  have H1 : ((impl_PermValid.f l1).bind fun t424 => (if t424 = true then (if (l0.length : Int) = (l1.length : Int) then ((impl_mul.f k l0 l1).bind fun t425 => (some (t425, true))) else (some (([] : List Int), false))) else (some (([] : List Int), false)))) = some (r1, r2) := by rw [if_pos rfl] at H; exact H
  clear H; have H := H1; clear H1; obtain ⟨t424, A5, H⟩ := zbind H
  by_cases c6 : t424 = true
  ·subst c6
   have H1 : (if (l0.length : Int) = (l1.length : Int) then ((impl_mul.f k l0 l1).bind fun t425 => (some (t425, true))) else (some (([] : List Int), false))) = some (r1, r2) := by rw [if_pos rfl] at H; exact H
   clear H; have H := H1; clear H1
   by_cases c7 : (l0.length : Int) = (l1.length : Int)
   ·rw [if_pos c7] at H
    have c7b0 : ((l0.length : Int) == (l1.length : Int)) = true := beq_iff_eq.mpr c7
    have c7b1 : ((l0.length : Int) != (l1.length : Int)) = false := bne_eq_false_iff_eq.mpr c7
    have c7b2 : (l0.length == l1.length) = true := by first | simpa using c7 | (simp at c7 ⊢; omega)
    clear c7; obtain ⟨t425, A8, H⟩ := zbind H; simp only [Option.some.injEq, Prod.mk.injEq] at H; obtain ⟨rfl, rfl⟩ := H
    go_enter Try.func12, Try.ntmps12
    go_wp2_with (first | ((with_reducible refine gC (f := 10) rfl ?_); refine goesL_ (some 7) rfl rfl Try.func10 (by kernel_rfl) rfl #[.slice A0 l0.length c0] rfl (by (try simp only [List.map_toArray, List.map_cons, List.map_nil]); first | done | rfl) ?_; (with_reducible refine (impl_PermValid.calls _ _ l0 true _ ?side1 ?side2 A3.out).mono ?_); (case side1 => repeat (first | exact HR0.out | (with_reducible refine cA ?_ _) | (with_reducible refine cN ?_ _) | (with_reducible refine cD ?_))); (case side2 => exact HC0.out); rintro e w9 ⟨rfl, hb⟩; refine ⟨_, rfl, ?_⟩; replace HB := zB HB hb; (try clear hb)) | (go_at_call 10; (with_reducible refine (impl_PermValid.calls _ _ l1 true _ ?side1 ?side2 A5.out).mono ?_); (case side1 => repeat (first | exact (cB HR1.out HB.out) | (with_reducible refine cA ?_ _) | (with_reducible refine cN ?_ _) | (with_reducible refine cD ?_))); (case side2 => exact HC1.out); rintro e w10 ⟨rfl, hb⟩; replace HB := zB HB hb; (try clear hb)) | ((with_reducible refine gC (f := 29) rfl ?_); refine goesL_ (some 23) rfl rfl Try.func29 (by kernel_rfl) rfl #[.slice A0 l0.length c0, .slice A1 l1.length c1] rfl (by (try simp only [List.map_toArray, List.map_cons, List.map_nil]); first | done | rfl) ?_; (with_reducible refine (impl_mul.calls k _ _ l0 _ _ l1 t425 _ ?side1 ?side2 ?side3 ?side4 A8.out).mono ?_); (case side1 => repeat (first | exact (cB HR0.out HB.out) | (with_reducible refine cA ?_ _) | (with_reducible refine cN ?_ _) | (with_reducible refine cD ?_))); (case side2 => exact HC0.out); (case side3 => repeat (first | exact (cB HR1.out HB.out) | (with_reducible refine cA ?_ _) | (with_reducible refine cN ?_ _) | (with_reducible refine cD ?_))); (case side4 => exact HC1.out); rintro e w11 ⟨v426, rfl, ho0, hb⟩; refine ⟨_, rfl, ?_⟩; have HO427 := A0_ (rL ho0 (bZ (zB_ HB))); replace HB := zB HB hb; (try clear hb); (try clear ho0)))
    go_ret2
    exact ⟨_, by first | rfl | (simp [*] <;> rfl), zR_ HO427, zB_ HB⟩
   rw [if_neg c7] at H
   have c7b0 : ((l0.length : Int) == (l1.length : Int)) = false := beq_eq_false_iff_ne.mpr c7
   have c7b1 : ((l0.length : Int) != (l1.length : Int)) = true := bne_iff_ne.mpr c7
   have c7b2 : (l0.length == l1.length) = false := by first | simpa using c7 | (simp at c7 ⊢; omega)
   simp only [Option.some.injEq, Prod.mk.injEq] at H; obtain ⟨rfl, rfl⟩ := H
   go_enter Try.func12, Try.ntmps12
   go_wp2_with (first | ((with_reducible refine gC (f := 10) rfl ?_); refine goesL_ (some 7) rfl rfl Try.func10 (by kernel_rfl) rfl #[.slice A0 l0.length c0] rfl (by (try simp only [List.map_toArray, List.map_cons, List.map_nil]); first | done | rfl) ?_; (with_reducible refine (impl_PermValid.calls _ _ l0 true _ ?side1 ?side2 A3.out).mono ?_); (case side1 => repeat (first | exact HR0.out | (with_reducible refine cA ?_ _) | (with_reducible refine cN ?_ _) | (with_reducible refine cD ?_))); (case side2 => exact HC0.out); rintro e w12 ⟨rfl, hb⟩; refine ⟨_, rfl, ?_⟩; replace HB := zB HB hb; (try clear hb)) | (go_at_call 10; (with_reducible refine (impl_PermValid.calls _ _ l1 true _ ?side1 ?side2 A5.out).mono ?_); (case side1 => repeat (first | exact (cB HR1.out HB.out) | (with_reducible refine cA ?_ _) | (with_reducible refine cN ?_ _) | (with_reducible refine cD ?_))); (case side2 => exact HC1.out); rintro e w13 ⟨rfl, hb⟩; replace HB := zB HB hb; (try clear hb)))
   go_ret2
   exact ⟨_, by first | rfl | (simp [*] <;> rfl), by first | exact Kd.R_nil _ _ _ _ _ | exact Kd.N_nil _ _ _ _ _ | exact Kd.V_nil _ _ _ _ _ | exact Kd.Q_nil _ _ _ _ _ | exact Kd.S_nil _ _ _ _ _, zB_ HB⟩
  replace c6 := Bool.eq_false_iff.mpr c6; subst c6
  have H1 : (some (([] : List Int), false)) = some (r1, r2) := by rw [if_neg (show ¬ (false = true) by decide)] at H; exact H
  clear H; have H := H1; clear H1; simp only [Option.some.injEq, Prod.mk.injEq] at H; obtain ⟨rfl, rfl⟩ := H
  go_enter Try.func12, Try.ntmps12
  go_wp2_with (first | ((with_reducible refine gC (f := 10) rfl ?_); refine goesL_ (some 7) rfl rfl Try.func10 (by kernel_rfl) rfl #[.slice A0 l0.length c0] rfl (by (try simp only [List.map_toArray, List.map_cons, List.map_nil]); first | done | rfl) ?_; (with_reducible refine (impl_PermValid.calls _ _ l0 true _ ?side1 ?side2 A3.out).mono ?_); (case side1 => repeat (first | exact HR0.out | (with_reducible refine cA ?_ _) | (with_reducible refine cN ?_ _) | (with_reducible refine cD ?_))); (case side2 => exact HC0.out); rintro e w14 ⟨rfl, hb⟩; refine ⟨_, rfl, ?_⟩; replace HB := zB HB hb; (try clear hb)) | (go_at_call 10; (with_reducible refine (impl_PermValid.calls _ _ l1 false _ ?side1 ?side2 A5.out).mono ?_); (case side1 => repeat (first | exact (cB HR1.out HB.out) | (with_reducible refine cA ?_ _) | (with_reducible refine cN ?_ _) | (with_reducible refine cD ?_))); (case side2 => exact HC1.out); rintro e w15 ⟨rfl, hb⟩; replace HB := zB HB hb; (try clear hb)))
  go_ret2
  exact ⟨_, by first | rfl | (simp [*] <;> rfl), by first | exact Kd.R_nil _ _ _ _ _ | exact Kd.N_nil _ _ _ _ _ | exact Kd.V_nil _ _ _ _ _ | exact Kd.Q_nil _ _ _ _ _ | exact Kd.S_nil _ _ _ _ _, zB_ HB⟩
 replace c4 := Bool.eq_false_iff.mpr c4; subst c4
 have H1 : (some (([] : List Int), false)) = some (r1, r2) := by rw [if_neg (show ¬ (false = true) by decide)] at H; exact H
 clear H; have H := H1; clear H1; simp only [Option.some.injEq, Prod.mk.injEq] at H; obtain ⟨rfl, rfl⟩ := H
 go_enter Try.func12, Try.ntmps12
 go_wp2_with (first | ((with_reducible refine gC (f := 10) rfl ?_); refine goesL_ (some 7) rfl rfl Try.func10 (by kernel_rfl) rfl #[.slice A0 l0.length c0] rfl (by (try simp only [List.map_toArray, List.map_cons, List.map_nil]); first | done | rfl) ?_; (with_reducible refine (impl_PermValid.calls _ _ l0 false _ ?side1 ?side2 A3.out).mono ?_); (case side1 => repeat (first | exact HR0.out | (with_reducible refine cA ?_ _) | (with_reducible refine cN ?_ _) | (with_reducible refine cD ?_))); (case side2 => exact HC0.out); rintro e w16 ⟨rfl, hb⟩; refine ⟨_, rfl, ?_⟩; replace HB := zB HB hb; (try clear hb)))
 go_ret2
 exact ⟨_, by first | rfl | (simp [*] <;> rfl), by first | exact Kd.R_nil _ _ _ _ _ | exact Kd.N_nil _ _ _ _ _ | exact Kd.V_nil _ _ _ _ _ | exact Kd.Q_nil _ _ _ _ _ | exact Kd.S_nil _ _ _ _ _, zB_ HB⟩

/-! ### laws_sameMap: function 13 -/
def laws_sameMap.f (k : Nat) (l0_0 : List Int) (l0_1 : List Int) (l1_0 : List Int) (l1_1 : List Int) : Option (Bool) := (laws_sameInts.f k l0_0 l1_0).bind fun t430 => (if t430 = true then ((laws_sameInts.f k l0_1 l1_1).bind fun t431 => (some t431)) else (some false))
set_option maxHeartbeats 8000000 in
set_option maxRecDepth 100000 in
theorem laws_sameMap.calls (k : Nat) (A0_0 : Option Addr) (c0_0 : Nat) (l0_0 : List Int) (A0_1 : Option Addr) (c0_1 : Nat) (l0_1 : List Int) (A1_0 : Option Addr) (c1_0 : Nat) (l1_0 : List Int) (A1_1 : Option Addr) (c1_1 : Nat) (l1_1 : List Int) (r : Bool) (w : World) (hr0_0 : Kd.C (Kd.int .i64) w A0_0 l0_0.length l0_0) (hc0_0 : l0_0.length ≤ c0_0) (hr0_1 : Kd.C (Kd.int .i64) w A0_1 l0_1.length l0_1) (hc0_1 : l0_1.length ≤ c0_1) (hr1_0 : Kd.C (Kd.int .i64) w A1_0 l1_0.length l1_0) (hc1_0 : l1_0.length ≤ c1_0) (hr1_1 : Kd.C (Kd.int .i64) w A1_1 l1_1.length l1_1) (hc1_1 : l1_1.length ≤ c1_1) (h : laws_sameMap.f k l0_0 l0_1 l1_0 l1_1 = some r) :
    Calls Try.prog 13 #[.agg #[.slice A0_0 l0_0.length c0_0, .slice A0_1 l0_1.length c0_1], .agg #[.slice A1_0 l1_0.length c1_0, .slice A1_1 l1_1.length c1_1]] w fun e w' => e = .returned (.bool r) ∧ Below w.heap.size w w' := by
 have hu25 := Try.underlying25; have HR0_0 := A0_ hr0_0; have HC0_0 := A0_ hc0_0; clear hr0_0 hc0_0; have HR0_1 := A0_ hr0_1; have HC0_1 := A0_ hc0_1; clear hr0_1 hc0_1; have HR1_0 := A0_ hr1_0; have HC1_0 := A0_ hc1_0; clear hr1_0 hc1_0; have HR1_1 := A0_ hr1_1; have HC1_1 := A0_ hc1_1; clear hr1_1 hc1_1
 have HB := A0_ (Below.refl w.heap.size w)
 have H : ((laws_sameInts.f k l0_0 l1_0).bind fun t430 => (if t430 = true then ((laws_sameInts.f k l0_1 l1_1).bind fun t431 => (some t431)) else (some false))) = some r := h
 clear h; obtain ⟨t430, A3, H⟩ := zbind H
 by_cases c4 : t430 = true
 ·subst c4
  rw [if_pos rfl] at H; obtain ⟨t431, A5, H⟩ := zbind H; obtain rfl := sI H
  go_enter Try.func13, Try.ntmps13
  go_wp2_with (first | ((with_reducible refine gD (N := 2) rfl ?_); refine box_event ?hg (N := 2) ?hd (cs := #[.slice A0_0 l0_0.length c0_0, .slice A0_1 l0_1.length c0_1]) (t := 25) ?hr ?_; (case hd => rfl); (case hg => rfl); (case hr => first | (go_simp; done) | (go_simp; rfl)); intro gb428 hg w6 hbox hb; have BK428 := A0_ (hbox); have GW428 := zG hg HB; have GE428 := zG hg HB; replace HB := zB HB hb; clear hb hbox hg) | ((with_reducible refine gD (N := 3) rfl ?_); refine box_event ?hg (N := 3) ?hd (cs := #[.slice A1_0 l1_0.length c1_0, .slice A1_1 l1_1.length c1_1]) (t := 25) ?hr ?_; (case hd => rfl); (case hg => rfl); (case hr => first | (go_simp; done) | (go_simp; rfl)); intro gb429 hg w7 hbox hb; have BK429 := A0_ (hbox); have GW429 := zG hg HB; have GE429 := zG hg HB; replace HB := zB HB hb; have NB428_429 := zL hg BK428; have NB429_428 := zM hg BK428; replace BK428 := zK BK428 hb; clear hb hbox hg; have hnb8 := NB428_429.out; have hnc8 := NB429_428.out; have hcz9_0 : w7.cell? ⟨gb428, 0, none⟩ = some (.slice A0_0 l0_0.length c0_0) := (kC BK428.out 0).trans rfl; have hcz9_1 : w7.cell? ⟨gb428, 1, none⟩ = some (.slice A0_1 l0_1.length c0_1) := (kC BK428.out 1).trans rfl; have hfz9_0 := kF BK428.out 0; have hfz9_1 := kF BK428.out 1; have hcz10_0 : w7.cell? ⟨gb429, 0, none⟩ = some (.slice A1_0 l1_0.length c1_0) := (kC BK429.out 0).trans rfl; have hcz10_1 : w7.cell? ⟨gb429, 1, none⟩ = some (.slice A1_1 l1_1.length c1_1) := (kC BK429.out 1).trans rfl; have hfz10_0 := kF BK429.out 0; have hfz10_1 := kF BK429.out 1) | ((with_reducible refine gC (f := 8) rfl ?_); refine goesL_ (some 9) rfl rfl Try.func8 (by kernel_rfl) rfl #[.slice A0_0 l0_0.length c0_0, .slice A1_0 l1_0.length c1_0] rfl (by (try simp only [List.map_toArray, List.map_cons, List.map_nil]); first | done | rfl) ?_; (with_reducible refine (laws_sameInts.calls k _ _ l0_0 _ _ l1_0 true _ ?side1 ?side2 ?side3 ?side4 A3.out).mono ?_); (case side1 => repeat (first | exact (cB HR0_0.out HB.out) | (with_reducible refine cA ?_ _) | (with_reducible refine cN ?_ _) | (with_reducible refine cD ?_))); (case side2 => exact HC0_0.out); (case side3 => repeat (first | exact (cB HR1_0.out HB.out) | (with_reducible refine cA ?_ _) | (with_reducible refine cN ?_ _) | (with_reducible refine cD ?_))); (case side4 => exact HC1_0.out); rintro e w' ⟨rfl, ⟨nd, rfl⟩⟩; refine ⟨_, rfl, ?_⟩) | (go_at_call 8; (with_reducible refine (laws_sameInts.calls k _ _ l0_1 _ _ l1_1 t431 _ ?side1 ?side2 ?side3 ?side4 A5.out).mono ?_); (case side1 => repeat (first | exact (cB HR0_1.out (zB_ HB)) | (with_reducible refine cA ?_ _) | (with_reducible refine cN ?_ _) | (with_reducible refine cD ?_))); (case side2 => exact HC0_1.out); (case side3 => repeat (first | exact (cB HR1_1.out (zB_ HB)) | (with_reducible refine cA ?_ _) | (with_reducible refine cN ?_ _) | (with_reducible refine cD ?_))); (case side4 => exact HC1_1.out); rintro e w' ⟨rfl, ⟨nd, rfl⟩⟩))
  go_ret
  exact ⟨by first | rfl | (simp [*] <;> rfl), zB_ HB⟩
 replace c4 := Bool.eq_false_iff.mpr c4; subst c4
 rw [if_neg (show ¬ (false = true) by decide)] at H
 obtain rfl := sI H
 go_enter Try.func13, Try.ntmps13
 go_wp2_with (first | ((with_reducible refine gD (N := 2) rfl ?_); refine box_event ?hg (N := 2) ?hd (cs := #[.slice A0_0 l0_0.length c0_0, .slice A0_1 l0_1.length c0_1]) (t := 25) ?hr ?_; (case hd => rfl); (case hg => rfl); (case hr => first | (go_simp; done) | (go_simp; rfl)); intro gb428 hg w11 hbox hb; have BK428 := A0_ (hbox); have GW428 := zG hg HB; have GE428 := zG hg HB; replace HB := zB HB hb; clear hb hbox hg) | ((with_reducible refine gD (N := 3) rfl ?_); refine box_event ?hg (N := 3) ?hd (cs := #[.slice A1_0 l1_0.length c1_0, .slice A1_1 l1_1.length c1_1]) (t := 25) ?hr ?_; (case hd => rfl); (case hg => rfl); (case hr => first | (go_simp; done) | (go_simp; rfl)); intro gb429 hg w12 hbox hb; have BK429 := A0_ (hbox); have GW429 := zG hg HB; have GE429 := zG hg HB; replace HB := zB HB hb; have NB428_429 := zL hg BK428; have NB429_428 := zM hg BK428; replace BK428 := zK BK428 hb; clear hb hbox hg; have hnb13 := NB428_429.out; have hnc13 := NB429_428.out; have hcz14_0 : w12.cell? ⟨gb428, 0, none⟩ = some (.slice A0_0 l0_0.length c0_0) := (kC BK428.out 0).trans rfl; have hcz14_1 : w12.cell? ⟨gb428, 1, none⟩ = some (.slice A0_1 l0_1.length c0_1) := (kC BK428.out 1).trans rfl; have hfz14_0 := kF BK428.out 0; have hfz14_1 := kF BK428.out 1; have hcz15_0 : w12.cell? ⟨gb429, 0, none⟩ = some (.slice A1_0 l1_0.length c1_0) := (kC BK429.out 0).trans rfl; have hcz15_1 : w12.cell? ⟨gb429, 1, none⟩ = some (.slice A1_1 l1_1.length c1_1) := (kC BK429.out 1).trans rfl; have hfz15_0 := kF BK429.out 0; have hfz15_1 := kF BK429.out 1) | ((with_reducible refine gC (f := 8) rfl ?_); refine goesL_ (some 9) rfl rfl Try.func8 (by kernel_rfl) rfl #[.slice A0_0 l0_0.length c0_0, .slice A1_0 l1_0.length c1_0] rfl (by (try simp only [List.map_toArray, List.map_cons, List.map_nil]); first | done | rfl) ?_; (with_reducible refine (laws_sameInts.calls k _ _ l0_0 _ _ l1_0 false _ ?side1 ?side2 ?side3 ?side4 A3.out).mono ?_); (case side1 => repeat (first | exact (cB HR0_0.out HB.out) | (with_reducible refine cA ?_ _) | (with_reducible refine cN ?_ _) | (with_reducible refine cD ?_))); (case side2 => exact HC0_0.out); (case side3 => repeat (first | exact (cB HR1_0.out HB.out) | (with_reducible refine cA ?_ _) | (with_reducible refine cN ?_ _) | (with_reducible refine cD ?_))); (case side4 => exact HC1_0.out); rintro e w' ⟨rfl, ⟨nd, rfl⟩⟩; refine ⟨_, rfl, ?_⟩))
 go_ret
 exact ⟨by first | rfl | (simp [*] <;> rfl), zB_ HB⟩

end Go.Proofs.Ytlckmmnpcljhoaa.PFnShift
