-- Made by a program of this session (wip/tools) out of the loaded program; not trusted: Lean checks it.
import Derived.Test.YtmegggomhjgehaaPFnWindingx0
import Derived.Test.YtmegggomhjgehaaPFnWindingx2
import Derived.Test.YtmegggomhjgehaaPFnWindingx4
-- packed
namespace Go.Proofs.Ytmegggomhjgehaa.PFnWinding
open Go.RowKit Go.Proofs.YtmegggomhjgehaaW.PrintWords Go.Proofs.YtmegggomhjgehaaW.PrintLast Go.Proofs.YtmegggomhjgehaaW.PrintMore
attribute [local go_sem] max2_int min2_int max_two min_two max_three min_three max_four min_four   -- for this text's walks alone
set_option linter.unusedVariables false
set_option linter.unusedSimpArgs false

/-! ### impl_CoverMap: function 20 -/
def impl_CoverMap.f (k : Nat) (l0_0 : List Int) (l0_1 : List Int) (a1 : Int) (l2 : List (List Int)) : Option (List Int × List Int × Bool) := (impl_VoltageValid.f k l0_0 l0_1 a1 l2).bind fun t188 => (if t188 = true then ((impl_cover.f k l0_0 l0_1 a1 l2).bind fun bt189 => ((impl_MapValid.f k bt189.1 bt189.2).bind fun t196 => (if t196 = true then (some (bt189.1, bt189.2, true)) else (some (([] : List Int), ([] : List Int), false))))) else (some (([] : List Int), ([] : List Int), false)))
set_option maxHeartbeats 8000000 in
set_option maxRecDepth 100000 in
theorem impl_CoverMap.calls (k : Nat) (A0_0 : Option Addr) (c0_0 : Nat) (l0_0 : List Int) (A0_1 : Option Addr) (c0_1 : Nat) (l0_1 : List Int) (a1 : Int) (A2 : Option Addr) (c2 : Nat) (l2 : List (List Int)) (r1 : List Int) (r2 : List Int) (r3 : Bool) (w : World) (hr0_0 : Kd.C (Kd.int .i64) w A0_0 l0_0.length l0_0) (hc0_0 : l0_0.length ≤ c0_0) (hr0_1 : Kd.C (Kd.int .i64) w A0_1 l0_1.length l0_1) (hc0_1 : l0_1.length ≤ c0_1) (hr2 : Kd.C (Kd.slice 3 (Kd.int .i64)) w A2 l2.length l2) (hc2 : l2.length ≤ c2) (h : impl_CoverMap.f k l0_0 l0_1 a1 l2 = some (r1, r2, r3)) :
    Calls Try.prog 20 #[.agg #[.slice A0_0 l0_0.length c0_0, .slice A0_1 l0_1.length c0_1], .int .i64 a1, .slice A2 l2.length c2] w fun e w' => ∃ v0_ v1_ : Value, e = .returned (.tuple #[.agg #[v0_, v1_], .bool r3]) ∧ Kd.R (Kd.int .i64) 3 w' w.heap.size (fun k_ => some k_ ≠ (v1_ : Value).ownBlock) v0_ r1 ∧ Kd.R (Kd.int .i64) 3 w' w.heap.size (fun k_ => some k_ ≠ (v0_ : Value).ownBlock) v1_ r2 ∧ Below w.heap.size w w' := by
 have hu25 := Try.underlying25; have HR0_0 := A0_ hr0_0; have HC0_0 := A0_ hc0_0; clear hr0_0 hc0_0; have HR0_1 := A0_ hr0_1; have HC0_1 := A0_ hc0_1; clear hr0_1 hc0_1; have HR2 := A0_ hr2; have HC2 := A0_ hc2; clear hr2 hc2
 have HB := A0_ (Below.refl w.heap.size w)
 have H : ((impl_VoltageValid.f k l0_0 l0_1 a1 l2).bind fun t188 => (if t188 = true then ((impl_cover.f k l0_0 l0_1 a1 l2).bind fun bt189 => ((impl_MapValid.f k bt189.1 bt189.2).bind fun t196 => (if t196 = true then (some (bt189.1, bt189.2, true)) else (some (([] : List Int), ([] : List Int), false))))) else (some (([] : List Int), ([] : List Int), false)))) = some (r1, r2, r3) := h
 clear h; obtain ⟨t188, A4, H⟩ := zbind H
 by_cases c5 : t188 = true
 ·subst c5
  have H1 : ((impl_cover.f k l0_0 l0_1 a1 l2).bind fun bt189 => ((impl_MapValid.f k bt189.1 bt189.2).bind fun t196 => (if t196 = true then (some (bt189.1, bt189.2, true)) else (some (([] : List Int), ([] : List Int), false))))) = some (r1, r2, r3) := by rw [if_pos rfl] at H; exact H
  clear H; have H := H1; clear H1; obtain ⟨⟨t189, t192⟩, A6, H⟩ := zbind H; dsimp only at H; obtain ⟨t196, A7, H⟩ := zbind H
  by_cases c8 : t196 = true
  ·subst c8
   have H1 : (some (t189, t192, true)) = some (r1, r2, r3) := by rw [if_pos rfl] at H; exact H
   clear H; have H := H1; clear H1; simp only [Option.some.injEq, Prod.mk.injEq] at H; obtain ⟨rfl, rfl, rfl⟩ := H
   go_enter Try.func20, Try.ntmps20
   go_wp2_with (first | ((with_reducible refine gD (N := 3) rfl ?_); refine zX (N := 3) (cs := #[.slice A0_0 l0_0.length c0_0, .slice A0_1 l0_1.length c0_1]) (t := 25) ?_; intro gb186 hg w9 hbox hb; have BK186 := A0_ (hbox); have GW186 := zG hg HB; have GE186 := zG hg HB; replace HB := zB HB hb; clear hb hbox hg) | ((with_reducible refine gD (N := 6) rfl ?_); refine zX (N := 6) (cs := #[.slice none 0 0, .slice none 0 0]) (t := 25) ?_; intro gb187 hg w10 hbox hb; have BK187 := A0_ (hbox); have GW187 := zG hg HB; have GE187 := zG hg HB; replace HB := zB HB hb; have NB186_187 := zL hg BK186; have NB187_186 := zM hg BK186; replace BK186 := zK BK186 hb; clear hb hbox hg; have hnb11 := NB186_187.out; have hnc11 := NB187_186.out; have hcz12_0 := zc0 BK186; have hcz12_1 := zc1 BK186; have hfz12_0 := kF BK186.out 0; have hfz12_1 := kF BK186.out 1) | ((with_reducible refine gC (f := 53) rfl ?_); refine zJ (some 12) Try.func53 #[.agg #[.slice A0_0 l0_0.length c0_0, .slice A0_1 l0_1.length c0_1], .int .i64 a1, .slice A2 l2.length c2] ?_; (with_reducible refine (impl_VoltageValid.calls k _ _ l0_0 _ _ l0_1 a1 _ _ l2 true _ ?side1 ?side2 ?side3 ?side4 ?side5 ?side6 A4.out).mono ?_); (case side1 => exact zC HR0_0 HB); (case side2 => exact HC0_0.out); (case side3 => exact zC HR0_1 HB); (case side4 => exact HC0_1.out); (case side5 => exact zC HR2 HB); (case side6 => exact HC2.out); rintro e w13 ⟨rfl, hb⟩; refine ⟨_, rfl, ?_⟩; replace BK186 := zK BK186 hb; replace BK187 := zK BK187 hb; replace HB := zB HB hb; (try clear hb); have hcz14_0 := zc0 BK186; have hcz14_1 := zc1 BK186; have hfz14_0 := kF BK186.out 0; have hfz14_1 := kF BK186.out 1) | ((with_reducible refine gC (f := 55) rfl ?_); refine zJ (some 18) Try.func55 #[.agg #[.slice A0_0 l0_0.length c0_0, .slice A0_1 l0_1.length c0_1], .int .i64 a1, .slice A2 l2.length c2] ?_; (with_reducible refine (impl_cover.calls k _ _ l0_0 _ _ l0_1 a1 _ _ l2 t189 t192 _ ?side1 ?side2 ?side3 ?side4 ?side5 ?side6 A6.out).mono ?_); (case side1 => exact zC HR0_0 HB); (case side2 => exact HC0_0.out); (case side3 => exact zC HR0_1 HB); (case side4 => exact HC0_1.out); (case side5 => exact zC HR2 HB); (case side6 => exact HC2.out); rintro e w15 ⟨v190, v193, rfl, ho0, ho1, hb⟩; refine ⟨_, rfl, ?_⟩; have HO191 := A0_ (rL ho0 (bZ (zB_ HB))); have HO194 := A0_ (rL ho1 (bZ (zB_ HB))); replace BK186 := zK BK186 hb; replace BK187 := zK BK187 hb; replace HB := zB HB hb; (try clear hb); (try clear ho0); (try clear ho1)) | ((with_reducible refine gD (N := 8) rfl ?_); refine zX (N := 8) (cs := #[.slice none 0 0, .slice none 0 0]) (t := 25) ?_; intro gb195 hg w16 hbox hb; replace HO191 := zR HO191 hb; replace HO194 := zR HO194 hb; have BK195 := A0_ (hbox); have GW195 := zG hg HB; have GE195 := zG hg HB; replace HB := zB HB hb; have NB186_195 := zL hg BK186; have NB195_186 := zM hg BK186; replace BK186 := zK BK186 hb; have NB187_195 := zL hg BK187; have NB195_187 := zM hg BK187; replace BK187 := zK BK187 hb; clear hb hbox hg; obtain ⟨Ao17, co17, eo17⟩ := rS HO191.out; subst eo17; have hnb18 := NB195_186.out; have hnc18 := NB186_195.out; have hnb19 := NB195_187.out; have hnc19 := NB187_195.out; have hcz20_0 := zc0 BK195; have hcz20_1 := zc1 BK195; have hfz20_0 := kF BK195.out 0; have hfz20_1 := kF BK195.out 1; obtain ⟨Ao21, co21, eo21⟩ := rS HO194.out; subst eo21) | ((with_reducible refine gS (t := 25) (p := 8) rfl ?_); refine store_event (t := 25) (p := 8) (v := ?vo_w22) (w1 := ((w16.setCell ⟨gb195, 0, none⟩ (.slice Ao17 t189.length co17)).setCell ⟨gb195, 1, none⟩ (.slice Ao21 t192.length co21))) ?hg ?ho ?hn ?hr ?_; (case ho => rfl); (case hg => rfl); (case hn => rfl); (case hr => first | (go_simp; done) | (go_simp; rfl)); intro w22 hw; replace HO191 : Aside0 (Kd.R (Kd.int .i64) 3 w22 w.heap.size (fun k_ => some k_ ≠ (.slice Ao21 t192.length co21 : Value).ownBlock) (.slice Ao17 t189.length co17) t189) := ⟨(by rw [hw]; exact (zF HO191 BK195 (.slice Ao17 t189.length co17) (.slice Ao21 t192.length co21) 0 1))⟩; replace HO194 : Aside0 (Kd.R (Kd.int .i64) 3 w22 w.heap.size (fun k_ => some k_ ≠ (.slice Ao17 t189.length co17 : Value).ownBlock) (.slice Ao21 t192.length co21) t192) := ⟨(by rw [hw]; exact (zF HO194 BK195 (.slice Ao17 t189.length co17) (.slice Ao21 t192.length co21) 0 1))⟩; replace BK186 : Aside0 (w22.heap[gb186]? = some (.cells #[.slice A0_0 l0_0.length c0_0, .slice A0_1 l0_1.length c0_1] 25 (0, 0))) := ⟨(by rw [hw]; exact (by (with_reducible repeat (first | refine kN ?_ _ | refine kD ?_ | refine kA ?_ _)); refine blk_far ?_ NB186_195.out _; (with_reducible repeat (first | refine kN ?_ _ | refine kD ?_ | refine kA ?_ _)); refine blk_far ?_ NB186_195.out _; (with_reducible repeat (first | refine kN ?_ _ | refine kD ?_ | refine kA ?_ _)); exact BK186.out))⟩; replace BK187 : Aside0 (w22.heap[gb187]? = some (.cells #[.slice none 0 0, .slice none 0 0] 25 (0, 0))) := ⟨(by rw [hw]; exact (by (with_reducible repeat (first | refine kN ?_ _ | refine kD ?_ | refine kA ?_ _)); refine blk_far ?_ NB187_195.out _; (with_reducible repeat (first | refine kN ?_ _ | refine kD ?_ | refine kA ?_ _)); refine blk_far ?_ NB187_195.out _; (with_reducible repeat (first | refine kN ?_ _ | refine kD ?_ | refine kA ?_ _)); exact BK187.out))⟩; replace BK195 : Aside0 (w22.heap[gb195]? = some (.cells #[.slice Ao17 t189.length co17, .slice Ao21 t192.length co21] 25 (0, 0))) := ⟨(by rw [hw]; exact (by (with_reducible repeat (first | refine kN ?_ _ | refine kD ?_ | refine kA ?_ _)); refine blk_put (cs := #[.slice Ao17 t189.length co17, .slice none 0 0]) ?_ 1 _ rfl; (with_reducible repeat (first | refine kN ?_ _ | refine kD ?_ | refine kA ?_ _)); refine blk_put (cs := #[.slice none 0 0, .slice none 0 0]) ?_ 0 _ rfl; (with_reducible repeat (first | refine kN ?_ _ | refine kD ?_ | refine kA ?_ _)); exact BK195.out))⟩; replace HB : Aside0 (Below w.heap.size w w22) := ⟨(by rw [hw]; exact (zB_ HB))⟩; clear hw; have hcz23_0 := zc0 BK195; have hcz23_1 := zc1 BK195; have hfz23_0 := kF BK195.out 0; have hfz23_1 := kF BK195.out 1) | ((with_reducible refine gC (f := 54) rfl ?_); refine zJ (some 20) Try.func54 #[.agg #[.slice Ao17 t189.length co17, .slice Ao21 t192.length co21]] ?_; (with_reducible refine (impl_MapValid.calls k (fun k_ => some k_ = (.slice Ao17 t189.length co17 : Value).ownBlock) _ _ t189 (fun k_ => some k_ = (.slice Ao21 t192.length co21 : Value).ownBlock) _ _ t192 true _ ?side1 ?side2 A7.out).mono ?_); (case side1 => exact Kd.R_V (Kd.R_tight rfl (rY (rY (rY (HO191.out) BK186.out (by decide)) BK187.out (by decide)) BK195.out (by decide)))); (case side2 => exact Kd.R_V (Kd.R_tight rfl (rY (rY (rY (HO194.out) BK186.out (by decide)) BK187.out (by decide)) BK195.out (by decide)))); rintro e w24 ⟨rfl, hb⟩; refine ⟨_, rfl, ?_⟩; replace HO191 := zR HO191 hb; replace HO194 := zR HO194 hb; replace BK186 := zK BK186 hb; replace BK187 := zK BK187 hb; replace BK195 := zK BK195 hb; replace HB := zB HB hb; (try clear hb); have hcz25_0 := zc0 BK195; have hcz25_1 := zc1 BK195; have hfz25_0 := kF BK195.out 0; have hfz25_1 := kF BK195.out 1; have hcz26_0 := zc0 BK187; have hcz26_1 := zc1 BK187; have hfz26_0 := kF BK187.out 0; have hfz26_1 := kF BK187.out 1))
   refine bodyPost_ret (results_ct rfl _ _ gb187 25 #[.slice Ao17 t189.length co17, .slice Ao21 t192.length co21] (0, 0) _ rfl (by (with_reducible repeat (first | refine kN ?_ _ | refine kD ?_ | refine kA ?_ _)); refine blk_put (cs := #[.slice Ao17 t189.length co17, .slice none 0 0]) ?_ 1 _ rfl; (with_reducible repeat (first | refine kN ?_ _ | refine kD ?_ | refine kA ?_ _)); refine blk_put (cs := #[.slice none 0 0, .slice none 0 0]) ?_ 0 _ rfl; (with_reducible repeat (first | refine kN ?_ _ | refine kD ?_ | refine kA ?_ _)); exact BK187.out) Try.underlying25 rfl (by kernel_rfl)) rfl ?_
   exact ⟨_, _, by first | rfl | (simp [*] <;> rfl), zF HO191 BK187 (.slice Ao17 t189.length co17) (.slice Ao21 t192.length co21) 0 1, zF HO194 BK187 (.slice Ao17 t189.length co17) (.slice Ao21 t192.length co21) 0 1, zB_ HB⟩
  replace c8 := Bool.eq_false_iff.mpr c8; subst c8
  have H1 : (some (([] : List Int), ([] : List Int), false)) = some (r1, r2, r3) := by rw [if_neg (show ¬ (false = true) by decide)] at H; exact H
  clear H; have H := H1; clear H1; simp only [Option.some.injEq, Prod.mk.injEq] at H; obtain ⟨rfl, rfl, rfl⟩ := H
  go_enter Try.func20, Try.ntmps20
  go_wp2_with (first | ((with_reducible refine gD (N := 3) rfl ?_); refine zX (N := 3) (cs := #[.slice A0_0 l0_0.length c0_0, .slice A0_1 l0_1.length c0_1]) (t := 25) ?_; intro gb186 hg w27 hbox hb; have BK186 := A0_ (hbox); have GW186 := zG hg HB; have GE186 := zG hg HB; replace HB := zB HB hb; clear hb hbox hg) | ((with_reducible refine gD (N := 6) rfl ?_); refine zX (N := 6) (cs := #[.slice none 0 0, .slice none 0 0]) (t := 25) ?_; intro gb187 hg w28 hbox hb; have BK187 := A0_ (hbox); have GW187 := zG hg HB; have GE187 := zG hg HB; replace HB := zB HB hb; have NB186_187 := zL hg BK186; have NB187_186 := zM hg BK186; replace BK186 := zK BK186 hb; clear hb hbox hg; have hnb29 := NB186_187.out; have hnc29 := NB187_186.out; have hcz30_0 := zc0 BK186; have hcz30_1 := zc1 BK186; have hfz30_0 := kF BK186.out 0; have hfz30_1 := kF BK186.out 1) | ((with_reducible refine gC (f := 53) rfl ?_); refine zJ (some 12) Try.func53 #[.agg #[.slice A0_0 l0_0.length c0_0, .slice A0_1 l0_1.length c0_1], .int .i64 a1, .slice A2 l2.length c2] ?_; (with_reducible refine (impl_VoltageValid.calls k _ _ l0_0 _ _ l0_1 a1 _ _ l2 true _ ?side1 ?side2 ?side3 ?side4 ?side5 ?side6 A4.out).mono ?_); (case side1 => exact zC HR0_0 HB); (case side2 => exact HC0_0.out); (case side3 => exact zC HR0_1 HB); (case side4 => exact HC0_1.out); (case side5 => exact zC HR2 HB); (case side6 => exact HC2.out); rintro e w31 ⟨rfl, hb⟩; refine ⟨_, rfl, ?_⟩; replace BK186 := zK BK186 hb; replace BK187 := zK BK187 hb; replace HB := zB HB hb; (try clear hb); have hcz32_0 := zc0 BK186; have hcz32_1 := zc1 BK186; have hfz32_0 := kF BK186.out 0; have hfz32_1 := kF BK186.out 1) | ((with_reducible refine gC (f := 55) rfl ?_); refine zJ (some 18) Try.func55 #[.agg #[.slice A0_0 l0_0.length c0_0, .slice A0_1 l0_1.length c0_1], .int .i64 a1, .slice A2 l2.length c2] ?_; (with_reducible refine (impl_cover.calls k _ _ l0_0 _ _ l0_1 a1 _ _ l2 t189 t192 _ ?side1 ?side2 ?side3 ?side4 ?side5 ?side6 A6.out).mono ?_); (case side1 => exact zC HR0_0 HB); (case side2 => exact HC0_0.out); (case side3 => exact zC HR0_1 HB); (case side4 => exact HC0_1.out); (case side5 => exact zC HR2 HB); (case side6 => exact HC2.out); rintro e w33 ⟨v190, v193, rfl, ho0, ho1, hb⟩; refine ⟨_, rfl, ?_⟩; have HO191 := A0_ (rL ho0 (bZ (zB_ HB))); have HO194 := A0_ (rL ho1 (bZ (zB_ HB))); replace BK186 := zK BK186 hb; replace BK187 := zK BK187 hb; replace HB := zB HB hb; (try clear hb); (try clear ho0); (try clear ho1)) | ((with_reducible refine gD (N := 8) rfl ?_); refine zX (N := 8) (cs := #[.slice none 0 0, .slice none 0 0]) (t := 25) ?_; intro gb195 hg w34 hbox hb; replace HO191 := zR HO191 hb; replace HO194 := zR HO194 hb; have BK195 := A0_ (hbox); have GW195 := zG hg HB; have GE195 := zG hg HB; replace HB := zB HB hb; have NB186_195 := zL hg BK186; have NB195_186 := zM hg BK186; replace BK186 := zK BK186 hb; have NB187_195 := zL hg BK187; have NB195_187 := zM hg BK187; replace BK187 := zK BK187 hb; clear hb hbox hg; obtain ⟨Ao35, co35, eo35⟩ := rS HO191.out; subst eo35; have hnb36 := NB195_186.out; have hnc36 := NB186_195.out; have hnb37 := NB195_187.out; have hnc37 := NB187_195.out; have hcz38_0 := zc0 BK195; have hcz38_1 := zc1 BK195; have hfz38_0 := kF BK195.out 0; have hfz38_1 := kF BK195.out 1; obtain ⟨Ao39, co39, eo39⟩ := rS HO194.out; subst eo39) | ((with_reducible refine gS (t := 25) (p := 8) rfl ?_); refine store_event (t := 25) (p := 8) (v := ?vo_w40) (w1 := ((w34.setCell ⟨gb195, 0, none⟩ (.slice Ao35 t189.length co35)).setCell ⟨gb195, 1, none⟩ (.slice Ao39 t192.length co39))) ?hg ?ho ?hn ?hr ?_; (case ho => rfl); (case hg => rfl); (case hn => rfl); (case hr => first | (go_simp; done) | (go_simp; rfl)); intro w40 hw; replace HO191 : Aside0 (Kd.R (Kd.int .i64) 3 w40 w.heap.size (fun k_ => some k_ ≠ (.slice Ao39 t192.length co39 : Value).ownBlock) (.slice Ao35 t189.length co35) t189) := ⟨(by rw [hw]; exact (zF HO191 BK195 (.slice Ao35 t189.length co35) (.slice Ao39 t192.length co39) 0 1))⟩; replace HO194 : Aside0 (Kd.R (Kd.int .i64) 3 w40 w.heap.size (fun k_ => some k_ ≠ (.slice Ao35 t189.length co35 : Value).ownBlock) (.slice Ao39 t192.length co39) t192) := ⟨(by rw [hw]; exact (zF HO194 BK195 (.slice Ao35 t189.length co35) (.slice Ao39 t192.length co39) 0 1))⟩; replace BK186 : Aside0 (w40.heap[gb186]? = some (.cells #[.slice A0_0 l0_0.length c0_0, .slice A0_1 l0_1.length c0_1] 25 (0, 0))) := ⟨(by rw [hw]; exact (by (with_reducible repeat (first | refine kN ?_ _ | refine kD ?_ | refine kA ?_ _)); refine blk_far ?_ NB186_195.out _; (with_reducible repeat (first | refine kN ?_ _ | refine kD ?_ | refine kA ?_ _)); refine blk_far ?_ NB186_195.out _; (with_reducible repeat (first | refine kN ?_ _ | refine kD ?_ | refine kA ?_ _)); exact BK186.out))⟩; replace BK187 : Aside0 (w40.heap[gb187]? = some (.cells #[.slice none 0 0, .slice none 0 0] 25 (0, 0))) := ⟨(by rw [hw]; exact (by (with_reducible repeat (first | refine kN ?_ _ | refine kD ?_ | refine kA ?_ _)); refine blk_far ?_ NB187_195.out _; (with_reducible repeat (first | refine kN ?_ _ | refine kD ?_ | refine kA ?_ _)); refine blk_far ?_ NB187_195.out _; (with_reducible repeat (first | refine kN ?_ _ | refine kD ?_ | refine kA ?_ _)); exact BK187.out))⟩; replace BK195 : Aside0 (w40.heap[gb195]? = some (.cells #[.slice Ao35 t189.length co35, .slice Ao39 t192.length co39] 25 (0, 0))) := ⟨(by rw [hw]; exact (by (with_reducible repeat (first | refine kN ?_ _ | refine kD ?_ | refine kA ?_ _)); refine blk_put (cs := #[.slice Ao35 t189.length co35, .slice none 0 0]) ?_ 1 _ rfl; (with_reducible repeat (first | refine kN ?_ _ | refine kD ?_ | refine kA ?_ _)); refine blk_put (cs := #[.slice none 0 0, .slice none 0 0]) ?_ 0 _ rfl; (with_reducible repeat (first | refine kN ?_ _ | refine kD ?_ | refine kA ?_ _)); exact BK195.out))⟩; replace HB : Aside0 (Below w.heap.size w w40) := ⟨(by rw [hw]; exact (zB_ HB))⟩; clear hw; have hcz41_0 := zc0 BK195; have hcz41_1 := zc1 BK195; have hfz41_0 := kF BK195.out 0; have hfz41_1 := kF BK195.out 1) | ((with_reducible refine gC (f := 54) rfl ?_); refine zJ (some 20) Try.func54 #[.agg #[.slice Ao35 t189.length co35, .slice Ao39 t192.length co39]] ?_; (with_reducible refine (impl_MapValid.calls k (fun k_ => some k_ = (.slice Ao35 t189.length co35 : Value).ownBlock) _ _ t189 (fun k_ => some k_ = (.slice Ao39 t192.length co39 : Value).ownBlock) _ _ t192 false _ ?side1 ?side2 A7.out).mono ?_); (case side1 => exact Kd.R_V (Kd.R_tight rfl (rY (rY (rY (HO191.out) BK186.out (by decide)) BK187.out (by decide)) BK195.out (by decide)))); (case side2 => exact Kd.R_V (Kd.R_tight rfl (rY (rY (rY (HO194.out) BK186.out (by decide)) BK187.out (by decide)) BK195.out (by decide)))); rintro e w42 ⟨rfl, hb⟩; refine ⟨_, rfl, ?_⟩; replace HO191 := zR HO191 hb; replace HO194 := zR HO194 hb; replace BK186 := zK BK186 hb; replace BK187 := zK BK187 hb; replace BK195 := zK BK195 hb; replace HB := zB HB hb; (try clear hb); have hcz43_0 := zc0 BK187; have hcz43_1 := zc1 BK187; have hfz43_0 := kF BK187.out 0; have hfz43_1 := kF BK187.out 1))
  refine bodyPost_ret (results_ct rfl _ _ gb187 25 #[.slice none 0 0, .slice none 0 0] (0, 0) _ rfl (by (with_reducible repeat (first | refine kN ?_ _ | refine kD ?_ | refine kA ?_ _)); refine blk_put (cs := #[.slice none 0 0, .slice none 0 0]) ?_ 1 _ rfl; (with_reducible repeat (first | refine kN ?_ _ | refine kD ?_ | refine kA ?_ _)); refine blk_put (cs := #[.slice none 0 0, .slice none 0 0]) ?_ 0 _ rfl; (with_reducible repeat (first | refine kN ?_ _ | refine kD ?_ | refine kA ?_ _)); exact BK187.out) Try.underlying25 rfl (by kernel_rfl)) rfl ?_
  exact ⟨_, _, by first | rfl | (simp [*] <;> rfl), by first | exact Kd.R_nil _ _ _ _ _ | exact Kd.N_nil _ _ _ _ _ | exact Kd.V_nil _ _ _ _ _ | exact Kd.Q_nil _ _ _ _ _ | exact Kd.S_nil _ _ _ _ _, by first | exact Kd.R_nil _ _ _ _ _ | exact Kd.N_nil _ _ _ _ _ | exact Kd.V_nil _ _ _ _ _ | exact Kd.Q_nil _ _ _ _ _ | exact Kd.S_nil _ _ _ _ _, zB_ HB⟩
 replace c5 := Bool.eq_false_iff.mpr c5; subst c5
 have H1 : (some (([] : List Int), ([] : List Int), false)) = some (r1, r2, r3) := by rw [if_neg (show ¬ (false = true) by decide)] at H; exact H
 clear H; have H := H1; clear H1; simp only [Option.some.injEq, Prod.mk.injEq] at H; obtain ⟨rfl, rfl, rfl⟩ := H
 go_enter Try.func20, Try.ntmps20
 go_wp2_with (first | ((with_reducible refine gD (N := 3) rfl ?_); refine zX (N := 3) (cs := #[.slice A0_0 l0_0.length c0_0, .slice A0_1 l0_1.length c0_1]) (t := 25) ?_; intro gb186 hg w44 hbox hb; have BK186 := A0_ (hbox); have GW186 := zG hg HB; have GE186 := zG hg HB; replace HB := zB HB hb; clear hb hbox hg) | ((with_reducible refine gD (N := 6) rfl ?_); refine zX (N := 6) (cs := #[.slice none 0 0, .slice none 0 0]) (t := 25) ?_; intro gb187 hg w45 hbox hb; have BK187 := A0_ (hbox); have GW187 := zG hg HB; have GE187 := zG hg HB; replace HB := zB HB hb; have NB186_187 := zL hg BK186; have NB187_186 := zM hg BK186; replace BK186 := zK BK186 hb; clear hb hbox hg; have hnb46 := NB186_187.out; have hnc46 := NB187_186.out; have hcz47_0 := zc0 BK186; have hcz47_1 := zc1 BK186; have hfz47_0 := kF BK186.out 0; have hfz47_1 := kF BK186.out 1) | ((with_reducible refine gC (f := 53) rfl ?_); refine zJ (some 12) Try.func53 #[.agg #[.slice A0_0 l0_0.length c0_0, .slice A0_1 l0_1.length c0_1], .int .i64 a1, .slice A2 l2.length c2] ?_; (with_reducible refine (impl_VoltageValid.calls k _ _ l0_0 _ _ l0_1 a1 _ _ l2 false _ ?side1 ?side2 ?side3 ?side4 ?side5 ?side6 A4.out).mono ?_); (case side1 => exact zC HR0_0 HB); (case side2 => exact HC0_0.out); (case side3 => exact zC HR0_1 HB); (case side4 => exact HC0_1.out); (case side5 => exact zC HR2 HB); (case side6 => exact HC2.out); rintro e w48 ⟨rfl, hb⟩; refine ⟨_, rfl, ?_⟩; replace BK186 := zK BK186 hb; replace BK187 := zK BK187 hb; replace HB := zB HB hb; (try clear hb); have hcz49_0 := zc0 BK187; have hcz49_1 := zc1 BK187; have hfz49_0 := kF BK187.out 0; have hfz49_1 := kF BK187.out 1))
 refine bodyPost_ret (results_ct rfl _ _ gb187 25 #[.slice none 0 0, .slice none 0 0] (0, 0) _ rfl (by (with_reducible repeat (first | refine kN ?_ _ | refine kD ?_ | refine kA ?_ _)); refine blk_put (cs := #[.slice none 0 0, .slice none 0 0]) ?_ 1 _ rfl; (with_reducible repeat (first | refine kN ?_ _ | refine kD ?_ | refine kA ?_ _)); refine blk_put (cs := #[.slice none 0 0, .slice none 0 0]) ?_ 0 _ rfl; (with_reducible repeat (first | refine kN ?_ _ | refine kD ?_ | refine kA ?_ _)); exact BK187.out) Try.underlying25 rfl (by kernel_rfl)) rfl ?_
 exact ⟨_, _, by first | rfl | (simp [*] <;> rfl), by first | exact Kd.R_nil _ _ _ _ _ | exact Kd.N_nil _ _ _ _ _ | exact Kd.V_nil _ _ _ _ _ | exact Kd.Q_nil _ _ _ _ _ | exact Kd.S_nil _ _ _ _ _, by first | exact Kd.R_nil _ _ _ _ _ | exact Kd.N_nil _ _ _ _ _ | exact Kd.V_nil _ _ _ _ _ | exact Kd.Q_nil _ _ _ _ _ | exact Kd.S_nil _ _ _ _ _, zB_ HB⟩

/-! ### laws_sameInts: function 38 -/
def laws_sameInts.l0 : Nat → List Int → List Int → Int → Option (Bool)
  | 0, _, _, _ => none
  | k + 1, x0, x1, x5 => if x5 < (x0.length : Int) then (if 0 ≤ x5 then (if x5 < (x1.length : Int) then (if (rd x0 x5) = (rd x1 x5) then (laws_sameInts.l0 k x0 x1 (wrap64 (x5 + 1))) else (some false)) else (none)) else (none)) else (some true)
def laws_sameInts.f (k : Nat) (l0 : List Int) (l1 : List Int) : Option (Bool) := if (l0.length : Int) = (l1.length : Int) then (laws_sameInts.l0 k l0 l1 0) else (some false)
set_option maxHeartbeats 8000000 in
set_option maxRecDepth 100000 in
theorem laws_sameInts.calls (k : Nat) (A0 : Option Addr) (c0 : Nat) (l0 : List Int) (A1 : Option Addr) (c1 : Nat) (l1 : List Int) (r : Bool) (w : World) (hr0 : Kd.C (Kd.int .i64) w A0 l0.length l0) (hc0 : l0.length ≤ c0) (hr1 : Kd.C (Kd.int .i64) w A1 l1.length l1) (hc1 : l1.length ≤ c1) (h : laws_sameInts.f k l0 l1 = some r) :
    Calls Try.prog 38 #[.slice A0 l0.length c0, .slice A1 l1.length c1] w fun e w' => e = .returned (.bool r) ∧ Drawn0 w w' := by
 have HR0 := A0_ hr0; have HC0 := A0_ hc0; clear hr0 hc0; have HR1 := A0_ hr1; have HC1 := A0_ hc1; clear hr1 hc1
 have H : (if (l0.length : Int) = (l1.length : Int) then (laws_sameInts.l0 k l0 l1 0) else (some false)) = some r := h
 clear h
 by_cases c3 : (l0.length : Int) = (l1.length : Int)
 ·rw [if_pos c3] at H
  have c3b0 : ((l0.length : Int) == (l1.length : Int)) = true := beq_iff_eq.mpr c3
  have c3b1 : ((l0.length : Int) != (l1.length : Int)) = false := bne_eq_false_iff_eq.mpr c3
  have c3b2 : (l0.length == l1.length) = true := by first | simpa using c3 | (simp at c3 ⊢; omega)
  clear c3; have H' := A0_ H; clear H
  go_enter Try.func38, Try.ntmps38
  go_wp2
  repeat (go_quiet (fail); try go_wp2)
  go_loopg [5] k (fun kq v5 w' => ∃ (x5_1 : Int), v5 = .int .i64 x5_1 ∧ Aside0 (laws_sameInts.l0 kq l0 l1 x5_1 = some r) ∧ Aside0 (kq ≤ k) ∧ Drawn0 w w')
  case atStart => exact ⟨(0), zt, H', ⟨Nat.le_refl _⟩, by repeat (first | exact Drawn0.refl _ | apply Drawn0.step)⟩
  case round =>
   clear H'; (try clear c1); (try clear p2); (try clear c3); (try clear c3b0); (try clear c3b1); (try clear c3b2); obtain ⟨x5_1, rfl, HA, HK1, ⟨m1, rfl⟩⟩ := hrel
   cases gk with
   | zero => exact absurd HA.out (by simp [laws_sameInts.l0])
   | succ k1 =>
    have H := HA.out; clear HA; simp only [laws_sameInts.l0] at H
    by_cases c4 : x5_1 < (l0.length : Int)
    ·rw [if_pos c4] at H
     have c4b0 := dT c4; clear c4
     by_cases c5 : 0 ≤ x5_1
     ·rw [if_pos c5] at H
      have c5b0 := dT c5; clear c5
      by_cases c6 : x5_1 < (l1.length : Int)
      ·rw [if_pos c6] at H
       have c6b0 := dT c6; clear c6
       by_cases c7 : (rd l0 x5_1) = (rd l1 x5_1)
       ·rw [if_pos c7] at H
        have c7b0 : ((rd l0 x5_1) == (rd l1 x5_1)) = true := beq_iff_eq.mpr c7
        have c7b1 : ((rd l0 x5_1) != (rd l1 x5_1)) = false := bne_eq_false_iff_eq.mpr c7
        clear c7; have H' := A0_ H; clear H
        have p197 : 0 ≤ (x5_1 : Int) := zd
        have q197 : x5_1 < (l0.length : Int) := zd
        obtain ⟨ad197, e197, hx197_0⟩ := tI HR0.out x5_1 p197 q197
        cases e197
        replace p197 := eq_true p197; replace q197 := eq_true q197
        have p198 : 0 ≤ (x5_1 : Int) := zd
        have q198 : x5_1 < (l1.length : Int) := zd
        obtain ⟨ad198, e198, hx198_0⟩ := tI HR1.out x5_1 p198 q198
        cases e198
        replace p198 := eq_true p198; replace q198 := eq_true q198
        go_wp2
        repeat (go_quiet (fail); try go_wp2)
        go_roundg k1
        case measure => have := HK1.out; omega
        case rel => exact ⟨(wrap64 (x5_1 + 1)), zt, H', ⟨by have := HK1.out; omega⟩, by repeat (first | exact Drawn0.refl _ | apply Drawn0.step)⟩
       rw [if_neg c7] at H
       have c7b0 : ((rd l0 x5_1) == (rd l1 x5_1)) = false := beq_eq_false_iff_ne.mpr c7
       have c7b1 : ((rd l0 x5_1) != (rd l1 x5_1)) = true := bne_iff_ne.mpr c7
       obtain rfl := sI H
       have p197 : 0 ≤ (x5_1 : Int) := zd
       have q197 : x5_1 < (l0.length : Int) := zd
       obtain ⟨ad197, e197, hx197_0⟩ := tI HR0.out x5_1 p197 q197
       cases e197
       replace p197 := eq_true p197; replace q197 := eq_true q197
       have p198 : 0 ≤ (x5_1 : Int) := zd
       have q198 : x5_1 < (l1.length : Int) := zd
       obtain ⟨ad198, e198, hx198_0⟩ := tI HR1.out x5_1 p198 q198
       cases e198
       replace p198 := eq_true p198; replace q198 := eq_true q198
       go_wp2
       repeat (go_quiet (fail); try go_wp2)
       go_ret
       exact ⟨by first | rfl | (simp; done) | (simp [*]; done), by repeat (first | exact Drawn0.refl _ | apply Drawn0.step)⟩
      rw [if_neg c6] at H
      exact absurd H (by simp)
     rw [if_neg c5] at H
     exact absurd H (by simp)
    rw [if_neg c4] at H; have c4b0 := dF c4; clear c4; obtain rfl := sI H
    go_wp2
    repeat (go_quiet (fail); try go_wp2)
    go_ret
    exact ⟨by first | rfl | (simp; done) | (simp [*]; done), by repeat (first | exact Drawn0.refl _ | apply Drawn0.step)⟩
 rw [if_neg c3] at H
 have c3b0 : ((l0.length : Int) == (l1.length : Int)) = false := beq_eq_false_iff_ne.mpr c3
 have c3b1 : ((l0.length : Int) != (l1.length : Int)) = true := bne_iff_ne.mpr c3
 have c3b2 : (l0.length == l1.length) = false := by first | simpa using c3 | (simp at c3 ⊢; omega)
 obtain rfl := sI H
 go_enter Try.func38, Try.ntmps38
 go_wp2
 repeat (go_quiet (fail); try go_wp2)
 go_ret
 exact ⟨by first | rfl | (simp; done) | (simp [*]; done), by repeat (first | exact Drawn0.refl _ | apply Drawn0.step)⟩

/-- A state of type 82 at block g of W; what its slices lead to came in by w0. -/
def IsS82 (w0 W : World) (g : Nat) (f0 : List Int) (f1 : Int) : Prop := ∃ A0 c0, W.heap[g]? = some (.cells #[.slice A0 f0.length c0, .int .i64 f1] 82 (0, 0)) ∧ w0.heap.size ≤ g ∧ Kd.C (Kd.int .u8) w0 A0 f0.length f0
theorem IsS82.grown {w0 W : World} {g : Nat} {f0 : List Int} {f1 : Int} {W1 : World} {row : Option Nat} (h : IsS82 w0 W g f0 f1) (hw : W.grownBy W1 row) (hne : some g ≠ row) : IsS82 w0 W1 g f0 f1 := by
  obtain ⟨A0, c0, hb, hg, hr0⟩ := h
  exact ⟨A0, c0, blk_grown hb hw hne, hg, hr0⟩
theorem IsS82.own_neN {w0 W : World} {g : Nat} {f0 : List Int} {f1 : Int} {α : Type} {d : Kd α} {e : Nat} {base : Nat} {ok : Nat → Prop} {v : Value} {xs : List α} (h : IsS82 w0 W g f0 f1) (ho : Kd.N d e W base ok v xs) (ht : e ≠ 82) : some g ≠ v.ownBlock := by
  obtain ⟨A0, c0, hb, hg, hr0⟩ := h
  exact Kd.N_ne ho hb ht
theorem IsS82.fresh {w0 W : World} {g : Nat} {f0 : List Int} {f1 : Int} (h : IsS82 w0 W g f0 f1) : ∀ k, W.heap.size ≤ k → k ≠ g := by
  obtain ⟨A0, c0, hb, hg, hr0⟩ := h
  exact Kd.freshB hb
theorem IsS82.kept {w0 W : World} {g : Nat} {f0 : List Int} {f1 : Int} {W1 : World} {S : Nat → Prop} (h : IsS82 w0 W g f0 f1) (hk : Kept W W1 S) (hne : ¬ S g) : IsS82 w0 W1 g f0 f1 := by
  obtain ⟨A0, c0, hb, hg, hr0⟩ := h
  exact ⟨A0, c0, blk_kept hb hk hne, hg, hr0⟩
theorem IsS82.below {w0 W : World} {g : Nat} {f0 : List Int} {f1 : Int} {W1 : World} (h : IsS82 w0 W g f0 f1) (hw : Below W.heap.size W W1) : IsS82 w0 W1 g f0 f1 := h.grown (grown_of_below hw none) (by simp)
theorem IsS82.alloc {w0 W : World} {g : Nat} {f0 : List Int} {f1 : Int} (h : IsS82 w0 W g f0 f1) (o : Obj) : IsS82 w0 (W.alloc o) g f0 f1 := h.below (bA (Below.refl _ _) o)
theorem IsS82.drewN {w0 W : World} {g : Nat} {f0 : List Int} {f1 : Int} (h : IsS82 w0 W g f0 f1) (m : Nat) : IsS82 w0 (W.drewN m) g f0 f1 := h
theorem IsS82.drew {w0 W : World} {g : Nat} {f0 : List Int} {f1 : Int} (h : IsS82 w0 W g f0 f1) : IsS82 w0 W.drew g f0 f1 := h
theorem IsS82.at_ {w0 W : World} {g : Nat} {f0 : List Int} {f1 : Int} {w' : World} {m : Nat} (hq : W.drewN m = w') (h : IsS82 w0 W g f0 f1) : IsS82 w0 w' g f0 f1 := by subst hq; exact IsS82.drewN h m
theorem IsS82.apart {w0 W : World} {g : Nat} {f0 : List Int} {f1 : Int} {α : Type} {d : Kd α} {e : Nat} {base : Nat} {ok : Nat → Prop} {v : Value} {xs : List α} (h : IsS82 w0 W g f0 f1) (ho : d.R e W base ok v xs) (ht : ∀ q, q ∈ e :: d.E → q ≠ 82) : d.R e W base (fun k => ok k ∧ k ≠ g) v xs := by
  obtain ⟨A0, c0, hb, hg, hr0⟩ := h
  exact rY ho hb ht
theorem IsS82.own_ne {w0 W : World} {g : Nat} {f0 : List Int} {f1 : Int} {α : Type} {d : Kd α} {e : Nat} {base : Nat} {ok : Nat → Prop} {v : Value} {xs : List α} (h : IsS82 w0 W g f0 f1) (ho : d.R e W base ok v xs) (ht : e ≠ 82) : some g ≠ v.ownBlock := by
  obtain ⟨A0, c0, hb, hg, hr0⟩ := h
  exact Kd.R_ne ho hb ht
theorem IsS82.apartQ {w0 W : World} {g : Nat} {f0 : List Int} {f1 : Int} {α : Type} {d : Kd α} {e : Nat} {base : Nat} {ok : Nat → Prop} {v : Value} {xs : List α} (h : IsS82 w0 W g f0 f1) (ho : d.Q e W base ok v xs) (ht : ∀ q, q ∈ e :: d.E → q ≠ 82) : d.Q e W base (fun k => ok k ∧ k ≠ g) v xs := by
  obtain ⟨A0, c0, hb, hg, hr0⟩ := h
  exact Kd.Q_types ho hb ht
theorem IsS82.own_neQ {w0 W : World} {g : Nat} {f0 : List Int} {f1 : Int} {α : Type} {d : Kd α} {e : Nat} {base : Nat} {ok : Nat → Prop} {v : Value} {xs : List α} (h : IsS82 w0 W g f0 f1) (ho : d.Q e W base ok v xs) (ht : e ≠ 82) : some g ≠ v.ownBlock := by
  obtain ⟨A0, c0, hb, hg, hr0⟩ := h
  exact Kd.Q_ne ho hb ht
theorem IsS82.apartS {w0 W : World} {g : Nat} {f0 : List Int} {f1 : Int} {α : Type} {d : Kd α} {e : Nat} {base : Nat} {ok : Nat → Prop} {v : Value} {xs : List α} (h : IsS82 w0 W g f0 f1) (ho : d.S e W base ok v xs) (ht : ∀ q, q ∈ e :: d.E → q ≠ 82) : d.S e W base (fun k => ok k ∧ k ≠ g) v xs := by
  obtain ⟨A0, c0, hb, hg, hr0⟩ := h
  exact Kd.S_types ho hb ht
theorem IsS82.own_neS {w0 W : World} {g : Nat} {f0 : List Int} {f1 : Int} {α : Type} {d : Kd α} {e : Nat} {base : Nat} {ok : Nat → Prop} {v : Value} {xs : List α} (h : IsS82 w0 W g f0 f1) (ho : d.S e W base ok v xs) (ht : e ≠ 82) : some g ≠ v.ownBlock := by
  obtain ⟨A0, c0, hb, hg, hr0⟩ := h
  exact Kd.S_ne ho hb ht
theorem IsS82.lt {w0 W : World} {g : Nat} {f0 : List Int} {f1 : Int} (h : IsS82 w0 W g f0 f1) : g < W.heap.size := by
  obtain ⟨A0, c0, hb, hg, hr0⟩ := h
  exact kL hb
theorem IsS82.ge {w0 W : World} {g : Nat} {f0 : List Int} {f1 : Int} (h : IsS82 w0 W g f0 f1) : w0.heap.size ≤ g := by
  obtain ⟨A0, c0, hb, hg, hr0⟩ := h
  exact hg
theorem IsS82.ne_blk {w0 W : World} {g : Nat} {f0 : List Int} {f1 : Int} {a : Nat} {cs : Array Value} {t : TypeId} {fr : Nat × Nat} (h : IsS82 w0 W g f0 f1) (hb2 : W.heap[a]? = some (.cells cs t fr)) (ht : t ≠ 82) : g ≠ a := by
  obtain ⟨A0, c0, hb, hg, hr0⟩ := h
  rintro rfl
  rw [hb] at hb2
  injection hb2 with hb2
  injection hb2 with _ ht2
  exact ht ht2.symm
theorem IsS82.far {w0 W : World} {g : Nat} {f0 : List Int} {f1 : Int} {p : Addr} (h : IsS82 w0 W g f0 f1) (hne : g ≠ p.block) (u : Value) : IsS82 w0 (W.setCell p u) g f0 f1 := by
  obtain ⟨A0, c0, hb, hg, hr0⟩ := h
  exact ⟨A0, c0, blk_far hb hne u, hg, hr0⟩
theorem cellS82_0 {W : World} {g : Nat} {A0 : Option Addr} {c0 : Nat} {f0 : List Int} {f1 : Int} (h : W.heap[g]? = some (.cells #[.slice A0 f0.length c0, .int .i64 f1] 82 (0, 0))) : W.cell? ⟨g, 0, none⟩ = some (.slice A0 f0.length c0) := (kC h 0).trans rfl
theorem cellS82_1 {W : World} {g : Nat} {A0 : Option Addr} {c0 : Nat} {f0 : List Int} {f1 : Int} (h : W.heap[g]? = some (.cells #[.slice A0 f0.length c0, .int .i64 f1] 82 (0, 0))) : W.cell? ⟨g, 1, none⟩ = some (.int .i64 f1) := (kC h 1).trans rfl
theorem IsS82.set_1 {w0 W : World} {g : Nat} {f0 : List Int} {f1 : Int} (h : IsS82 w0 W g f0 f1) (x : Int) : IsS82 w0 (W.setCell ⟨g, 1, none⟩ (.int .i64 x)) g f0 x := by
  obtain ⟨A0, c0, hb, hg, hr0⟩ := h
  exact ⟨A0, c0, by simpa using blk_set hb 1 (.int .i64 x), hg, hr0⟩
theorem IsS82.new (w0 W : World) (A0 : Option Addr) (c0 : Nat) (f0 : List Int) (f1 : Int) (hB : Below w0.heap.size w0 W) (hr0 : Kd.C (Kd.int .u8) w0 A0 f0.length f0) : IsS82 w0 (W.alloc (.cells #[.slice A0 f0.length c0, .int .i64 f1] 82)) W.heap.size f0 f1 := ⟨A0, c0, by simpa using heap_alloc_new W _, hB.size, hr0⟩

/-! ### spec_l6Rd_pick: function 74 -/
def spec_l6Rd_pick.j0 : Nat → Int → Bool → List Int → Int → Option (Int × Int)
  | 0, _, _, _, _ => none
  | k + 1, x1, x24, x1000, x1001 => if x24 = true then (some (0, x1001)) else (if (wrap64 (x1001 - 1)) < (x1000.length : Int) then (if 0 ≤ (wrap64 (x1001 - 1)) then (if x1 = 0 then (none) else (some (Int.tmod (wrap64 (rd x1000 (wrap64 (x1001 - 1)))) x1, x1001))) else (none)) else (if (x1000.length : Int) = 0 then (none) else (if 0 ≤ (Int.tmod (wrap64 (x1001 - 1)) (x1000.length : Int)) then (if (Int.tmod (wrap64 (x1001 - 1)) (x1000.length : Int)) < (x1000.length : Int) then (if 0 ≤ (Int.tmod (wrap64 ((wrap64 ((wrap64 (x1001 - 1)) * 7)) + 3)) (x1000.length : Int)) then (if (Int.tmod (wrap64 ((wrap64 ((wrap64 (x1001 - 1)) * 7)) + 3)) (x1000.length : Int)) < (x1000.length : Int) then (if x1 = 0 then (none) else (some (Int.tmod (Go.bits .xor .i64 (wrap64 ((wrap64 ((wrap64 ((wrap64 ((wrap64 (rd x1000 (Int.tmod (wrap64 (x1001 - 1)) (x1000.length : Int)))) * 131)) + (wrap64 ((wrap64 (rd x1000 (Int.tmod (wrap64 ((wrap64 ((wrap64 (x1001 - 1)) * 7)) + 3)) (x1000.length : Int)))) * 1117)))) + (wrap64 ((wrap64 (x1001 - 1)) * 29)))) + (wrap64 ((wrap64 (Int.tdiv (wrap64 (x1001 - 1)) (x1000.length : Int))) * 53)))) (wrap64 (Int.tdiv (wrap64 ((wrap64 ((wrap64 ((wrap64 ((wrap64 (rd x1000 (Int.tmod (wrap64 (x1001 - 1)) (x1000.length : Int)))) * 131)) + (wrap64 ((wrap64 (rd x1000 (Int.tmod (wrap64 ((wrap64 ((wrap64 (x1001 - 1)) * 7)) + 3)) (x1000.length : Int)))) * 1117)))) + (wrap64 ((wrap64 (x1001 - 1)) * 29)))) + (wrap64 ((wrap64 (Int.tdiv (wrap64 (x1001 - 1)) (x1000.length : Int))) * 53)))) 64))) x1, x1001))) else (none)) else (none)) else (none)) else (none))))
def spec_l6Rd_pick.f (k : Nat) (s0_0 : List Int) (s0_1 : Int) (a1 : Int) : Option (Int × Int) := if a1 < 1 then (spec_l6Rd_pick.j0 k a1 true s0_0 (wrap64 (s0_1 + 1))) else (spec_l6Rd_pick.j0 k a1 ((s0_0.length : Int) == 0) s0_0 (wrap64 (s0_1 + 1)))
set_option maxHeartbeats 8000000 in
set_option maxRecDepth 100000 in
theorem spec_l6Rd_pick.calls (k : Nat) (g : Nat) (s0_0 : List Int) (s0_1 : Int) (a1 : Int) (r1 : Int) (r2 : Int) (w0 w : World) (hI : IsS82 w0 w g s0_0 s0_1) (hB : Below w0.heap.size w0 w) (h : spec_l6Rd_pick.f k s0_0 s0_1 a1 = some (r1, r2)) :
    Calls Try.prog 74 #[.pointer (some ⟨g, 0, none⟩), .int .i64 a1] w fun e w' => e = .returned (.int .i64 r1) ∧ IsS82 w0 w' g s0_0 r2 ∧ Below w0.heap.size w0 w' ∧ KeepBut w w' g none := by
 have HI0 := A0_ hI
 have HK := A0_ (KeepBut.refl w g none)
 have HL := A0_ hB.size; clear hI; have HW0 := A0_ hB.size; have HB := A0_ hB; clear hB
 have H : (if a1 < 1 then (spec_l6Rd_pick.j0 k a1 true s0_0 (wrap64 (s0_1 + 1))) else (spec_l6Rd_pick.j0 k a1 ((s0_0.length : Int) == 0) s0_0 (wrap64 (s0_1 + 1)))) = some (r1, r2) := h
 clear h; have HC3 := A0_ H; clear H; obtain ⟨ASz4_0, cSz4_0, HGz4, hgz4, HSz4_0⟩ := HI0.out; have hcz4_0 := cellS82_0 HGz4; have hcz4_1 := cellS82_1 HGz4; have hfz4_1 := kF HGz4 1; clear HGz4 hgz4
 go_enter Try.func74, Try.ntmps74
 go_upto_region 2 with (fail)
 repeat (go_quiet (fail); go_upto_region 2 with (fail))
 go_cut [24] (fun v24 wc => ∃ (kq : Nat) (x24_2 : Bool), v24 = .bool x24_2 ∧ Aside0 (spec_l6Rd_pick.j0 kq a1 x24_2 s0_0 (wrap64 (s0_1 + 1)) = some (r1, r2)) ∧ Aside0 (kq ≤ k) ∧ Aside0 (IsS82 w0 wc g s0_0 (wrap64 (s0_1 + 1))) ∧ Aside0 (KeepBut w wc g none) ∧ Aside0 (Below w0.heap.size w0 wc))
 case first =>
  have H := HC3.out; clear HC3
  by_cases c5 : a1 < 1
  ·rw [if_pos c5] at H
   have c5b0 := dT c5; clear c5
   (first | rw [c5b0] | (simp only [i64_w, i32_w]; rw [c5b0]) | skip)
   have H' := A0_ H; clear H
   go_wp2
   repeat (go_quiet (fail); try go_wp2)
   go_meet
   case rel => exact ⟨_, (true), zt, H', zo, ⟨by repeat (first | (with_reducible first | exact HI0.out | apply IsS82.alloc | apply IsS82.drewN | apply IsS82.drew | apply IsS82.set_1) | exact HI0.out)⟩, ⟨by repeat (first | (with_reducible first | exact HK.out | apply KeepBut.set_ | apply keep_drewN | apply keep_drew | apply keep_alloc) | exact HK.out)⟩, ⟨by repeat (first | (with_reducible first | exact HB.out | apply bA | apply bN | apply bD | refine bS ?_ (IsS82.ge HI0.out)) | exact HB.out)⟩⟩
  rw [if_neg c5] at H; have c5b0 := dF c5; clear c5
  (first | rw [c5b0] | (simp only [i64_w, i32_w]; rw [c5b0]) | skip)
  have H' := A0_ H; clear H; obtain ⟨ASz6_0, cSz6_0, HGz6, hgz6, HSz6_0⟩ := HI0.out; have hcz6_0 := cellS82_0 HGz6; have hcz6_1 := cellS82_1 HGz6; have hfz6_1 := kF HGz6 1; clear HGz6 hgz6
  go_wp2
  repeat (go_quiet (fail); try go_wp2)
  go_meet
  case rel => exact ⟨_, (((s0_0.length : Int) == 0)), zt, H', zo, ⟨by repeat (first | (with_reducible first | exact HI0.out | apply IsS82.alloc | apply IsS82.drewN | apply IsS82.drew | apply IsS82.set_1) | exact HI0.out)⟩, ⟨by repeat (first | (with_reducible first | exact HK.out | apply KeepBut.set_ | apply keep_drewN | apply keep_drew | apply keep_alloc) | exact HK.out)⟩, ⟨by repeat (first | (with_reducible first | exact HB.out | apply bA | apply bN | apply bD | refine bS ?_ (IsS82.ge HI0.out)) | exact HB.out)⟩⟩
 case rest =>
  clear HC3; (try clear p2); (try clear c5); (try clear c5b0); (try clear p6); (try clear hcz4_0); (try clear hcz4_1); (try clear hcz6_0); (try clear hcz6_1); (try clear hfz4_1); (try clear hfz6_1); obtain ⟨kq, x24_2, rfl, HA, HJ2, HI0, HK, HB⟩ := hcut
  cases kq with
  | zero => exact absurd HA.out (by simp [spec_l6Rd_pick.j0])
  | succ kj2 =>
   have H := HA.out; clear HA; simp only [spec_l6Rd_pick.j0] at H
   by_cases c7 : x24_2 = true
   ·subst c7
    have H1 : (some (0, (wrap64 (s0_1 + 1)))) = some (r1, r2) := by rw [if_pos rfl] at H; exact H
    clear H; have H := H1; clear H1; simp only [Option.some.injEq, Prod.mk.injEq] at H; obtain ⟨rfl, rfl⟩ := H
    go_wp2
    repeat (go_quiet (fail); try go_wp2)
    go_ret
    exact ⟨by first | rfl | (simp [*] <;> rfl), by repeat (first | (with_reducible first | exact HI0.out | apply IsS82.alloc | apply IsS82.drewN | apply IsS82.drew | apply IsS82.set_1) | exact HI0.out), by repeat (first | (with_reducible first | exact HB.out | apply bA | apply bN | apply bD | refine bS ?_ (IsS82.ge HI0.out)) | exact HB.out), by repeat (first | (with_reducible first | exact HK.out | apply KeepBut.set_ | apply keep_drewN | apply keep_drew | apply keep_alloc) | exact HK.out)⟩
   replace c7 := Bool.eq_false_iff.mpr c7; subst c7
   have H1 : (if (wrap64 ((wrap64 (s0_1 + 1)) - 1)) < (s0_0.length : Int) then (if 0 ≤ (wrap64 ((wrap64 (s0_1 + 1)) - 1)) then (if a1 = 0 then (none) else (some (Int.tmod (wrap64 (rd s0_0 (wrap64 ((wrap64 (s0_1 + 1)) - 1)))) a1, (wrap64 (s0_1 + 1))))) else (none)) else (if (s0_0.length : Int) = 0 then (none) else (if 0 ≤ (Int.tmod (wrap64 ((wrap64 (s0_1 + 1)) - 1)) (s0_0.length : Int)) then (if (Int.tmod (wrap64 ((wrap64 (s0_1 + 1)) - 1)) (s0_0.length : Int)) < (s0_0.length : Int) then (if 0 ≤ (Int.tmod (wrap64 ((wrap64 ((wrap64 ((wrap64 (s0_1 + 1)) - 1)) * 7)) + 3)) (s0_0.length : Int)) then (if (Int.tmod (wrap64 ((wrap64 ((wrap64 ((wrap64 (s0_1 + 1)) - 1)) * 7)) + 3)) (s0_0.length : Int)) < (s0_0.length : Int) then (if a1 = 0 then (none) else (some (Int.tmod (Go.bits .xor .i64 (wrap64 ((wrap64 ((wrap64 ((wrap64 ((wrap64 (rd s0_0 (Int.tmod (wrap64 ((wrap64 (s0_1 + 1)) - 1)) (s0_0.length : Int)))) * 131)) + (wrap64 ((wrap64 (rd s0_0 (Int.tmod (wrap64 ((wrap64 ((wrap64 ((wrap64 (s0_1 + 1)) - 1)) * 7)) + 3)) (s0_0.length : Int)))) * 1117)))) + (wrap64 ((wrap64 ((wrap64 (s0_1 + 1)) - 1)) * 29)))) + (wrap64 ((wrap64 (Int.tdiv (wrap64 ((wrap64 (s0_1 + 1)) - 1)) (s0_0.length : Int))) * 53)))) (wrap64 (Int.tdiv (wrap64 ((wrap64 ((wrap64 ((wrap64 ((wrap64 (rd s0_0 (Int.tmod (wrap64 ((wrap64 (s0_1 + 1)) - 1)) (s0_0.length : Int)))) * 131)) + (wrap64 ((wrap64 (rd s0_0 (Int.tmod (wrap64 ((wrap64 ((wrap64 ((wrap64 (s0_1 + 1)) - 1)) * 7)) + 3)) (s0_0.length : Int)))) * 1117)))) + (wrap64 ((wrap64 ((wrap64 (s0_1 + 1)) - 1)) * 29)))) + (wrap64 ((wrap64 (Int.tdiv (wrap64 ((wrap64 (s0_1 + 1)) - 1)) (s0_0.length : Int))) * 53)))) 64))) a1, (wrap64 (s0_1 + 1))))) else (none)) else (none)) else (none)) else (none)))) = some (r1, r2) := by rw [if_neg (show ¬ (false = true) by decide)] at H; exact H
   clear H; have H := H1; clear H1
   by_cases c8 : (wrap64 ((wrap64 (s0_1 + 1)) - 1)) < (s0_0.length : Int)
   ·rw [if_pos c8] at H
    have c8b0 := dT c8; clear c8
    obtain ⟨ji9, hji9⟩ : ∃ j_ : Int, (wrap64 ((wrap64 (s0_1 + 1)) - 1)) = j_ := ⟨_, rfl⟩
    replace H : (if 0 ≤ (ji9) then (if a1 = 0 then (none) else (some (Int.tmod (wrap64 (rd s0_0 (ji9))) a1, (wrap64 (s0_1 + 1))))) else (none)) = some (r1, r2) := by first | (rw [hji9] at H; exact H) | (simp only [hji9] at H ⊢; exact H)
    (try rw [hji9] at c8b0)
    have hji9w : (IntKind.i64.wrap ((wrap64 (s0_1 + 1)) - 1)) = ji9 := (i64_w _).trans hji9
    by_cases c10 : 0 ≤ (ji9)
    ·rw [if_pos c10] at H
     have c10b0 := dT c10; clear c10
     by_cases c11 : a1 = 0
     ·rw [if_pos c11] at H
      exact absurd H (by simp)
     rw [if_neg c11] at H
     have c11b0 : (a1 == 0) = false := beq_eq_false_iff_ne.mpr c11
     have c11b1 : (a1 != 0) = true := bne_iff_ne.mpr c11
     simp only [Option.some.injEq, Prod.mk.injEq] at H; obtain ⟨rfl, rfl⟩ := H; obtain ⟨ASz12_0, cSz12_0, HGz12, hgz12, HSz12_0⟩ := HI0.out; have hcz12_0 := cellS82_0 HGz12; have hcz12_1 := cellS82_1 HGz12; have hfz12_1 := kF HGz12 1; clear HGz12 hgz12
     have p199 : 0 ≤ ((ji9) : Int) := zd
     have q199 : (ji9) < (s0_0.length : Int) := zd
     obtain ⟨ad199, e199, hx199_0⟩ := tI HSz12_0 (ji9) p199 q199
     cases e199
     replace hx199_0 := pw_cell_below HB.out hx199_0
     replace p199 := eq_true p199; replace q199 := eq_true q199
     go_wp2
     repeat (go_quiet (fail); try go_wp2)
     go_ret
     exact ⟨by first | rfl | (simp [errW_none, errW_some] <;> rfl) | (simp only [← hji9]; first | rfl | (simp [errW_none, errW_some] <;> rfl)) | (simp [*, errW_none, errW_some] <;> rfl), by repeat (first | (with_reducible first | exact HI0.out | apply IsS82.alloc | apply IsS82.drewN | apply IsS82.drew | apply IsS82.set_1) | exact HI0.out), by repeat (first | (with_reducible first | exact HB.out | apply bA | apply bN | apply bD | refine bS ?_ (IsS82.ge HI0.out)) | exact HB.out), by repeat (first | (with_reducible first | exact HK.out | apply KeepBut.set_ | apply keep_drewN | apply keep_drew | apply keep_alloc) | exact HK.out)⟩
    rw [if_neg c10] at H
    exact absurd H (by simp)
   rw [if_neg c8] at H; have c8b0 := dF c8; clear c8
   by_cases c13 : (s0_0.length : Int) = 0
   ·rw [if_pos c13] at H
    exact absurd H (by simp)
   rw [if_neg c13] at H
   have c13b0 : ((s0_0.length : Int) == 0) = false := beq_eq_false_iff_ne.mpr c13
   have c13b1 : ((s0_0.length : Int) != 0) = true := bne_iff_ne.mpr c13
   have c13b2 : ¬ (s0_0 = []) := fun h_ => c13 (by rw [h_]; rfl)
   obtain ⟨ji14, hji14⟩ : ∃ j_ : Int, (Int.tmod (wrap64 ((wrap64 (s0_1 + 1)) - 1)) (s0_0.length : Int)) = j_ := ⟨_, rfl⟩
   replace H : (if 0 ≤ (ji14) then (if (ji14) < (s0_0.length : Int) then (if 0 ≤ (Int.tmod (wrap64 ((wrap64 ((wrap64 ((wrap64 (s0_1 + 1)) - 1)) * 7)) + 3)) (s0_0.length : Int)) then (if (Int.tmod (wrap64 ((wrap64 ((wrap64 ((wrap64 (s0_1 + 1)) - 1)) * 7)) + 3)) (s0_0.length : Int)) < (s0_0.length : Int) then (if a1 = 0 then (none) else (some (Int.tmod (Go.bits .xor .i64 (wrap64 ((wrap64 ((wrap64 ((wrap64 ((wrap64 (rd s0_0 (ji14))) * 131)) + (wrap64 ((wrap64 (rd s0_0 (Int.tmod (wrap64 ((wrap64 ((wrap64 ((wrap64 (s0_1 + 1)) - 1)) * 7)) + 3)) (s0_0.length : Int)))) * 1117)))) + (wrap64 ((wrap64 ((wrap64 (s0_1 + 1)) - 1)) * 29)))) + (wrap64 ((wrap64 (Int.tdiv (wrap64 ((wrap64 (s0_1 + 1)) - 1)) (s0_0.length : Int))) * 53)))) (wrap64 (Int.tdiv (wrap64 ((wrap64 ((wrap64 ((wrap64 ((wrap64 (rd s0_0 (ji14))) * 131)) + (wrap64 ((wrap64 (rd s0_0 (Int.tmod (wrap64 ((wrap64 ((wrap64 ((wrap64 (s0_1 + 1)) - 1)) * 7)) + 3)) (s0_0.length : Int)))) * 1117)))) + (wrap64 ((wrap64 ((wrap64 (s0_1 + 1)) - 1)) * 29)))) + (wrap64 ((wrap64 (Int.tdiv (wrap64 ((wrap64 (s0_1 + 1)) - 1)) (s0_0.length : Int))) * 53)))) 64))) a1, (wrap64 (s0_1 + 1))))) else (none)) else (none)) else (none)) else (none)) = some (r1, r2) := by first | (rw [hji14] at H; exact H) | (simp only [hji14] at H ⊢; exact H)
   by_cases c15 : 0 ≤ (ji14)
   ·rw [if_pos c15] at H
    have c15b0 := dT c15; clear c15
    by_cases c16 : (ji14) < (s0_0.length : Int)
    ·rw [if_pos c16] at H
     have c16b0 := dT c16; clear c16
     obtain ⟨ji17, hji17⟩ : ∃ j_ : Int, (Int.tmod (wrap64 ((wrap64 ((wrap64 ((wrap64 (s0_1 + 1)) - 1)) * 7)) + 3)) (s0_0.length : Int)) = j_ := ⟨_, rfl⟩
     replace H : (if 0 ≤ (ji17) then (if (ji17) < (s0_0.length : Int) then (if a1 = 0 then (none) else (some (Int.tmod (Go.bits .xor .i64 (wrap64 ((wrap64 ((wrap64 ((wrap64 ((wrap64 (rd s0_0 (ji14))) * 131)) + (wrap64 ((wrap64 (rd s0_0 (ji17))) * 1117)))) + (wrap64 ((wrap64 ((wrap64 (s0_1 + 1)) - 1)) * 29)))) + (wrap64 ((wrap64 (Int.tdiv (wrap64 ((wrap64 (s0_1 + 1)) - 1)) (s0_0.length : Int))) * 53)))) (wrap64 (Int.tdiv (wrap64 ((wrap64 ((wrap64 ((wrap64 ((wrap64 (rd s0_0 (ji14))) * 131)) + (wrap64 ((wrap64 (rd s0_0 (ji17))) * 1117)))) + (wrap64 ((wrap64 ((wrap64 (s0_1 + 1)) - 1)) * 29)))) + (wrap64 ((wrap64 (Int.tdiv (wrap64 ((wrap64 (s0_1 + 1)) - 1)) (s0_0.length : Int))) * 53)))) 64))) a1, (wrap64 (s0_1 + 1))))) else (none)) else (none)) = some (r1, r2) := by first | (rw [hji17] at H; exact H) | (simp only [hji17] at H ⊢; exact H)
     by_cases c18 : 0 ≤ (ji17)
     ·rw [if_pos c18] at H
      have c18b0 := dT c18; clear c18
      by_cases c19 : (ji17) < (s0_0.length : Int)
      ·rw [if_pos c19] at H
       have c19b0 := dT c19; clear c19
       by_cases c20 : a1 = 0
       ·rw [if_pos c20] at H
        exact absurd H (by simp)
       rw [if_neg c20] at H
       have c20b0 : (a1 == 0) = false := beq_eq_false_iff_ne.mpr c20
       have c20b1 : (a1 != 0) = true := bne_iff_ne.mpr c20
       simp only [Option.some.injEq, Prod.mk.injEq] at H; obtain ⟨rfl, rfl⟩ := H; obtain ⟨ASz21_0, cSz21_0, HGz21, hgz21, HSz21_0⟩ := HI0.out; have hcz21_0 := cellS82_0 HGz21; have hcz21_1 := cellS82_1 HGz21; have hfz21_1 := kF HGz21 1; clear HGz21 hgz21
       have p200 : 0 ≤ ((ji14) : Int) := zd
       have q200 : (ji14) < (s0_0.length : Int) := zd
       obtain ⟨ad200, e200, hx200_0⟩ := tI HSz21_0 (ji14) p200 q200
       cases e200
       replace hx200_0 := pw_cell_below HB.out hx200_0
       replace p200 := eq_true p200; replace q200 := eq_true q200
       have p201 : 0 ≤ ((ji17) : Int) := zd
       have q201 : (ji17) < (s0_0.length : Int) := zd
       obtain ⟨ad201, e201, hx201_0⟩ := tI HSz21_0 (ji17) p201 q201
       obtain rfl : ad200 = ad201 := (by injection e201)
       replace hx201_0 := pw_cell_below HB.out hx201_0
       replace p201 := eq_true p201; replace q201 := eq_true q201
       go_wp2
       repeat (go_quiet (fail); try go_wp2)
       go_ret
       exact ⟨by first | rfl | (simp [errW_none, errW_some] <;> rfl) | (simp only [← hji14, ← hji17]; first | rfl | (simp [errW_none, errW_some] <;> rfl)) | (simp [*, errW_none, errW_some] <;> rfl), by repeat (first | (with_reducible first | exact HI0.out | apply IsS82.alloc | apply IsS82.drewN | apply IsS82.drew | apply IsS82.set_1) | exact HI0.out), by repeat (first | (with_reducible first | exact HB.out | apply bA | apply bN | apply bD | refine bS ?_ (IsS82.ge HI0.out)) | exact HB.out), by repeat (first | (with_reducible first | exact HK.out | apply KeepBut.set_ | apply keep_drewN | apply keep_drew | apply keep_alloc) | exact HK.out)⟩
      rw [if_neg c19] at H
      exact absurd H (by simp)
     rw [if_neg c18] at H
     exact absurd H (by simp)
    rw [if_neg c16] at H
    exact absurd H (by simp)
   rw [if_neg c15] at H
   exact absurd H (by simp)

/-! ### spec_l6In: function 101 -/
def spec_l6In.f (a0 : Int) (a1 : Int) (a2 : Int) : Option (Bool) := if a0 ≥ a1 then (some (decide (a0 ≤ a2))) else (some false)
set_option maxHeartbeats 8000000 in
set_option maxRecDepth 100000 in
theorem spec_l6In.calls (a0 : Int) (a1 : Int) (a2 : Int) (r : Bool) (w : World) (h : spec_l6In.f a0 a1 a2 = some r) :
    Calls Try.prog 101 #[.int .i64 a0, .int .i64 a1, .int .i64 a2] w fun e w' => e = .returned (.bool r) ∧ Drawn0 w w' := by
 have H : (if a0 ≥ a1 then (some (decide (a0 ≤ a2))) else (some false)) = some r := h
 clear h
 by_cases c4 : a0 ≥ a1
 ·rw [if_pos c4] at H
  have c4b0 : decide (a1 ≤ a0) = true := dT c4
  clear c4; obtain rfl := sI H
  go_enter Try.func101, Try.ntmps101
  go_wp2
  go_ret
  exact ⟨by first | rfl | (simp; done) | (simp [*]; done), by repeat (first | exact Drawn0.refl _ | apply Drawn0.step)⟩
 rw [if_neg c4] at H
 have c4b0 : decide (a1 ≤ a0) = false := dF c4
 clear c4; obtain rfl := sI H
 go_enter Try.func101, Try.ntmps101
 go_wp2
 go_ret
 exact ⟨by first | rfl | (simp; done) | (simp [*]; done), by repeat (first | exact Drawn0.refl _ | apply Drawn0.step)⟩

/-! ### spec_PermValid: function 89 -/
mutual
def spec_PermValid.l0 : Nat → List Int → Int → Option (Bool)
  | 0, _, _ => none
  | k + 1, x0, x3 => if x3 < (x0.length : Int) then (if 0 ≤ x3 then ((spec_l6In.f (rd x0 x3) 0 (wrap64 ((x0.length : Int) - 1))).bind fun t204 => (if t204 = true then (spec_PermValid.l1 k x0 x3 0) else (some false))) else (none)) else ((spec_l6In.f (x0.length : Int) 1 12).bind fun t202 => (some t202))
def spec_PermValid.l1 : Nat → List Int → Int → Int → Option (Bool)
  | 0, _, _, _ => none
  | k + 1, x0, x3, x4 => if x4 < x3 then (if 0 ≤ x4 then (if x4 < (x0.length : Int) then (if 0 ≤ x3 then (if x3 < (x0.length : Int) then (if (rd x0 x4) = (rd x0 x3) then (some false) else (spec_PermValid.l1 k x0 x3 (wrap64 (x4 + 1)))) else (none)) else (none)) else (none)) else (none)) else (spec_PermValid.l0 k x0 (wrap64 (x3 + 1)))
end
def spec_PermValid.f (k : Nat) (l0 : List Int) : Option (Bool) := spec_PermValid.l0 k l0 0
set_option maxHeartbeats 8000000 in
set_option maxRecDepth 100000 in
theorem spec_PermValid.calls (k : Nat) (A0 : Option Addr) (c0 : Nat) (l0 : List Int) (r : Bool) (w : World) (hr0 : Kd.C (Kd.int .i64) w A0 l0.length l0) (hc0 : l0.length ≤ c0) (h : spec_PermValid.f k l0 = some r) :
    Calls Try.prog 89 #[.slice A0 l0.length c0] w fun e w' => e = .returned (.bool r) ∧ Drawn0 w w' := by
 have HR0 := A0_ hr0; have HC0 := A0_ hc0; clear hr0 hc0
 have H : (spec_PermValid.l0 k l0 0) = some r := h
 clear h; have H' := A0_ H; clear H
 go_enter Try.func89, Try.ntmps89
 go_wp2
 repeat (go_quiet (fail); try go_wp2)
 go_loopg [3] k (fun kq v3 w' => ∃ (x3_1 : Int), v3 = .int .i64 x3_1 ∧ Aside0 (spec_PermValid.l0 kq l0 x3_1 = some r) ∧ Aside0 (kq ≤ k) ∧ Drawn0 w w')
 case atStart => exact ⟨(0), zt, H', ⟨Nat.le_refl _⟩, by repeat (first | exact Drawn0.refl _ | apply Drawn0.step)⟩
 case round =>
  clear H'; obtain ⟨x3_1, rfl, HA, HK1, ⟨m1, rfl⟩⟩ := hrel
  cases gk with
  | zero => exact absurd HA.out (by simp [spec_PermValid.l0])
  | succ k1 =>
   have H := HA.out; clear HA; simp only [spec_PermValid.l0] at H
   by_cases c2 : x3_1 < (l0.length : Int)
   ·rw [if_pos c2] at H
    have c2b0 := dT c2; clear c2
    by_cases c3 : 0 ≤ x3_1
    ·rw [if_pos c3] at H
     have c3b0 := dT c3; clear c3; obtain ⟨t204, A4, H⟩ := zbind H
     by_cases c5 : t204 = true
     ·subst c5
      rw [if_pos rfl] at H; have H' := A0_ H; clear H
      have p203 : 0 ≤ (x3_1 : Int) := zd
      have q203 : x3_1 < (l0.length : Int) := zd
      obtain ⟨ad203, e203, hx203_0⟩ := tI HR0.out x3_1 p203 q203
      cases e203
      replace p203 := eq_true p203; replace q203 := eq_true q203
      go_wp2_with (first | (go_at_call 101; (with_reducible refine (spec_l6In.calls (rd l0 x3_1) 0 (wrap64 ((l0.length : Int) - 1)) true _ A4.out).mono ?_); rintro e w' ⟨rfl, ⟨nd, rfl⟩⟩; (try first | exact ⟨rfl, _, World.drewN_drewN _ _ _⟩ | exact ⟨rfl, _, Eq.trans (World.drewN_drewN _ _ _) (congrArg (World.drewN _) (Nat.add_assoc _ _ _))⟩)))
      repeat (go_quiet (first | (go_at_call 101; (with_reducible refine (spec_l6In.calls (rd l0 x3_1) 0 (wrap64 ((l0.length : Int) - 1)) true _ A4.out).mono ?_); rintro e w' ⟨rfl, ⟨nd, rfl⟩⟩; (try first | exact ⟨rfl, _, World.drewN_drewN _ _ _⟩ | exact ⟨rfl, _, Eq.trans (World.drewN_drewN _ _ _) (congrArg (World.drewN _) (Nat.add_assoc _ _ _))⟩))); try go_wp2_with (first | (go_at_call 101; (with_reducible refine (spec_l6In.calls (rd l0 x3_1) 0 (wrap64 ((l0.length : Int) - 1)) true _ A4.out).mono ?_); rintro e w' ⟨rfl, ⟨nd, rfl⟩⟩; (try first | exact ⟨rfl, _, World.drewN_drewN _ _ _⟩ | exact ⟨rfl, _, Eq.trans (World.drewN_drewN _ _ _) (congrArg (World.drewN _) (Nat.add_assoc _ _ _))⟩))))
      (try generalize Value.pointer (some (ad203.add (x3_1 : Int).toNat)) = pz_)
      go_loopg [4] k1 (fun kq v4 w' => ∃ (x4_2 : Int), v4 = .int .i64 x4_2 ∧ Aside0 (spec_PermValid.l1 kq l0 x3_1 x4_2 = some r) ∧ Aside0 (kq ≤ k1) ∧ Drawn0 w w')
      case atStart => exact ⟨(0), zt, H', ⟨Nat.le_refl _⟩, by repeat (first | exact Drawn0.refl _ | apply Drawn0.step)⟩
      case round =>
       clear H'; (try clear c2); (try clear c2b0); (try clear p2); (try clear q2); (try clear hx2); (try clear c3); (try clear c3b0); (try clear c5); (try clear hx203_0); (try clear p203); (try clear q203); obtain ⟨x4_2, rfl, HA, HK2, ⟨m2, rfl⟩⟩ := hrel
       cases gk with
       | zero => exact absurd HA.out (by simp [spec_PermValid.l1])
       | succ k2 =>
        have H := HA.out; clear HA; simp only [spec_PermValid.l1] at H
        by_cases c6 : x4_2 < x3_1
        ·rw [if_pos c6] at H
         have c6b0 := dT c6; clear c6
         by_cases c7 : 0 ≤ x4_2
         ·rw [if_pos c7] at H
          have c7b0 := dT c7; clear c7
          by_cases c8 : x4_2 < (l0.length : Int)
          ·rw [if_pos c8] at H
           have c8b0 := dT c8; clear c8
           by_cases c9 : 0 ≤ x3_1
           ·rw [if_pos c9] at H
            have c9b0 := dT c9; clear c9
            by_cases c10 : x3_1 < (l0.length : Int)
            ·rw [if_pos c10] at H
             have c10b0 := dT c10; clear c10
             by_cases c11 : (rd l0 x4_2) = (rd l0 x3_1)
             ·rw [if_pos c11] at H
              have c11b0 : ((rd l0 x4_2) == (rd l0 x3_1)) = true := beq_iff_eq.mpr c11
              have c11b1 : ((rd l0 x4_2) != (rd l0 x3_1)) = false := bne_eq_false_iff_eq.mpr c11
              clear c11; obtain rfl := sI H
              have p205 : 0 ≤ (x4_2 : Int) := zd
              have q205 : x4_2 < (l0.length : Int) := zd
              obtain ⟨ad205, e205, hx205_0⟩ := tI HR0.out x4_2 p205 q205
              obtain rfl : ad203 = ad205 := (by injection e205)
              replace p205 := eq_true p205; replace q205 := eq_true q205
              have p206 : 0 ≤ (x3_1 : Int) := zd
              have q206 : x3_1 < (l0.length : Int) := zd
              obtain ⟨ad206, e206, hx206_0⟩ := tI HR0.out x3_1 p206 q206
              obtain rfl : ad203 = ad206 := (by injection e206)
              replace p206 := eq_true p206; replace q206 := eq_true q206
              go_wp2
              repeat (go_quiet (fail); try go_wp2)
              go_ret
              exact ⟨by first | rfl | (simp; done) | (simp [*]; done), by repeat (first | exact Drawn0.refl _ | apply Drawn0.step)⟩
             rw [if_neg c11] at H
             have c11b0 : ((rd l0 x4_2) == (rd l0 x3_1)) = false := beq_eq_false_iff_ne.mpr c11
             have c11b1 : ((rd l0 x4_2) != (rd l0 x3_1)) = true := bne_iff_ne.mpr c11
             have H' := A0_ H; clear H
             have p205 : 0 ≤ (x4_2 : Int) := zd
             have q205 : x4_2 < (l0.length : Int) := zd
             obtain ⟨ad205, e205, hx205_0⟩ := tI HR0.out x4_2 p205 q205
             obtain rfl : ad203 = ad205 := (by injection e205)
             replace p205 := eq_true p205; replace q205 := eq_true q205
             have p206 : 0 ≤ (x3_1 : Int) := zd
             have q206 : x3_1 < (l0.length : Int) := zd
             obtain ⟨ad206, e206, hx206_0⟩ := tI HR0.out x3_1 p206 q206
             obtain rfl : ad203 = ad206 := (by injection e206)
             replace p206 := eq_true p206; replace q206 := eq_true q206
             go_wp2
             repeat (go_quiet (fail); try go_wp2)
             go_roundg k2
             case measure => have := HK1.out; have := HK2.out; omega
             case rel => exact ⟨(wrap64 (x4_2 + 1)), zt, H', ⟨by have := HK1.out; have := HK2.out; omega⟩, by repeat (first | exact Drawn0.refl _ | apply Drawn0.step)⟩
            rw [if_neg c10] at H
            exact absurd H (by simp)
           rw [if_neg c9] at H
           exact absurd H (by simp)
          rw [if_neg c8] at H
          exact absurd H (by simp)
         rw [if_neg c7] at H
         exact absurd H (by simp)
        rw [if_neg c6] at H; have c6b0 := dF c6; clear c6; have H' := A0_ H; clear H
        go_wp2
        repeat (go_quiet (fail); try go_wp2)
        go_roundg k2
        case measure => have := HK1.out; have := HK2.out; omega
        case rel => exact ⟨(wrap64 (x3_1 + 1)), zt, H', ⟨by have := HK1.out; have := HK2.out; omega⟩, by repeat (first | exact Drawn0.refl _ | apply Drawn0.step)⟩
     replace c5 := Bool.eq_false_iff.mpr c5; subst c5
     rw [if_neg (show ¬ (false = true) by decide)] at H
     obtain rfl := sI H
     have p203 : 0 ≤ (x3_1 : Int) := zd
     have q203 : x3_1 < (l0.length : Int) := zd
     obtain ⟨ad203, e203, hx203_0⟩ := tI HR0.out x3_1 p203 q203
     cases e203
     replace p203 := eq_true p203; replace q203 := eq_true q203
     go_wp2_with (first | (go_at_call 101; (with_reducible refine (spec_l6In.calls (rd l0 x3_1) 0 (wrap64 ((l0.length : Int) - 1)) false _ A4.out).mono ?_); rintro e w' ⟨rfl, ⟨nd, rfl⟩⟩; (try first | exact ⟨rfl, _, World.drewN_drewN _ _ _⟩ | exact ⟨rfl, _, Eq.trans (World.drewN_drewN _ _ _) (congrArg (World.drewN _) (Nat.add_assoc _ _ _))⟩)))
     repeat (go_quiet (first | (go_at_call 101; (with_reducible refine (spec_l6In.calls (rd l0 x3_1) 0 (wrap64 ((l0.length : Int) - 1)) false _ A4.out).mono ?_); rintro e w' ⟨rfl, ⟨nd, rfl⟩⟩; (try first | exact ⟨rfl, _, World.drewN_drewN _ _ _⟩ | exact ⟨rfl, _, Eq.trans (World.drewN_drewN _ _ _) (congrArg (World.drewN _) (Nat.add_assoc _ _ _))⟩))); try go_wp2_with (first | (go_at_call 101; (with_reducible refine (spec_l6In.calls (rd l0 x3_1) 0 (wrap64 ((l0.length : Int) - 1)) false _ A4.out).mono ?_); rintro e w' ⟨rfl, ⟨nd, rfl⟩⟩; (try first | exact ⟨rfl, _, World.drewN_drewN _ _ _⟩ | exact ⟨rfl, _, Eq.trans (World.drewN_drewN _ _ _) (congrArg (World.drewN _) (Nat.add_assoc _ _ _))⟩))))
     go_ret
     exact ⟨by first | rfl | (simp; done) | (simp [*]; done), by repeat (first | exact Drawn0.refl _ | apply Drawn0.step)⟩
    rw [if_neg c3] at H
    exact absurd H (by simp)
   rw [if_neg c2] at H; have c2b0 := dF c2; clear c2; obtain ⟨t202, A12, H⟩ := zbind H; obtain rfl := sI H
   go_wp2_with (first | (go_at_call 101; (with_reducible refine (spec_l6In.calls (l0.length : Int) 1 12 t202 _ A12.out).mono ?_); rintro e w' ⟨rfl, ⟨nd, rfl⟩⟩; (try first | exact ⟨rfl, _, World.drewN_drewN _ _ _⟩ | exact ⟨rfl, _, Eq.trans (World.drewN_drewN _ _ _) (congrArg (World.drewN _) (Nat.add_assoc _ _ _))⟩)))
   repeat (go_quiet (first | (go_at_call 101; (with_reducible refine (spec_l6In.calls (l0.length : Int) 1 12 t202 _ A12.out).mono ?_); rintro e w' ⟨rfl, ⟨nd, rfl⟩⟩; (try first | exact ⟨rfl, _, World.drewN_drewN _ _ _⟩ | exact ⟨rfl, _, Eq.trans (World.drewN_drewN _ _ _) (congrArg (World.drewN _) (Nat.add_assoc _ _ _))⟩))); try go_wp2_with (first | (go_at_call 101; (with_reducible refine (spec_l6In.calls (l0.length : Int) 1 12 t202 _ A12.out).mono ?_); rintro e w' ⟨rfl, ⟨nd, rfl⟩⟩; (try first | exact ⟨rfl, _, World.drewN_drewN _ _ _⟩ | exact ⟨rfl, _, Eq.trans (World.drewN_drewN _ _ _) (congrArg (World.drewN _) (Nat.add_assoc _ _ _))⟩))))
   go_ret
   exact ⟨by first | rfl | (simp; done) | (simp [*]; done), by repeat (first | exact Drawn0.refl _ | apply Drawn0.step)⟩

/-! ### spec_l1Both: function 102 -/
def spec_l1Both.f (k : Nat) (l0 : List Int) (l1 : List Int) : Option (Bool) := (spec_PermValid.f k l0).bind fun t207 => (if t207 = true then ((spec_PermValid.f k l1).bind fun t208 => (if t208 = true then (some ((l0.length : Int) == (l1.length : Int))) else (some false))) else (some false))
set_option maxHeartbeats 8000000 in
set_option maxRecDepth 100000 in
theorem spec_l1Both.calls (k : Nat) (A0 : Option Addr) (c0 : Nat) (l0 : List Int) (A1 : Option Addr) (c1 : Nat) (l1 : List Int) (r : Bool) (w : World) (hr0 : Kd.C (Kd.int .i64) w A0 l0.length l0) (hc0 : l0.length ≤ c0) (hr1 : Kd.C (Kd.int .i64) w A1 l1.length l1) (hc1 : l1.length ≤ c1) (h : spec_l1Both.f k l0 l1 = some r) :
    Calls Try.prog 102 #[.slice A0 l0.length c0, .slice A1 l1.length c1] w fun e w' => e = .returned (.bool r) ∧ Drawn0 w w' := by
 have HR0 := A0_ hr0; have HC0 := A0_ hc0; clear hr0 hc0; have HR1 := A0_ hr1; have HC1 := A0_ hc1; clear hr1 hc1
 have H : ((spec_PermValid.f k l0).bind fun t207 => (if t207 = true then ((spec_PermValid.f k l1).bind fun t208 => (if t208 = true then (some ((l0.length : Int) == (l1.length : Int))) else (some false))) else (some false))) = some r := h
 clear h; obtain ⟨t207, A3, H⟩ := zbind H
 by_cases c4 : t207 = true
 ·subst c4
  rw [if_pos rfl] at H; obtain ⟨t208, A5, H⟩ := zbind H
  by_cases c6 : t208 = true
  ·subst c6
   rw [if_pos rfl] at H; obtain rfl := sI H
   go_enter Try.func102, Try.ntmps102
   go_wp2_with (first | ((with_reducible refine gC (f := 89) rfl ?_); refine zJ (some 6) Try.func89 #[.slice A0 l0.length c0] ?_; (with_reducible refine (spec_PermValid.calls k _ _ l0 true _ ?side1 ?side2 A3.out).mono ?_); (case side1 => repeat (first | exact HR0.out | (with_reducible refine cA ?_ _) | (with_reducible refine cN ?_ _) | (with_reducible refine cD ?_))); (case side2 => exact HC0.out); rintro e w' ⟨rfl, ⟨nd, rfl⟩⟩; refine ⟨_, rfl, ?_⟩) | (go_at_call 89; (with_reducible refine (spec_PermValid.calls k _ _ l1 true _ ?side1 ?side2 A5.out).mono ?_); (case side1 => repeat (first | exact HR1.out | (with_reducible refine cA ?_ _) | (with_reducible refine cN ?_ _) | (with_reducible refine cD ?_))); (case side2 => exact HC1.out); rintro e w' ⟨rfl, ⟨nd, rfl⟩⟩))
   go_ret
   exact ⟨by first | rfl | (simp; done) | (simp [*]; done), by repeat (first | exact Drawn0.refl _ | apply Drawn0.step)⟩
  replace c6 := Bool.eq_false_iff.mpr c6; subst c6
  rw [if_neg (show ¬ (false = true) by decide)] at H
  obtain rfl := sI H
  go_enter Try.func102, Try.ntmps102
  go_wp2_with (first | ((with_reducible refine gC (f := 89) rfl ?_); refine zJ (some 6) Try.func89 #[.slice A0 l0.length c0] ?_; (with_reducible refine (spec_PermValid.calls k _ _ l0 true _ ?side1 ?side2 A3.out).mono ?_); (case side1 => repeat (first | exact HR0.out | (with_reducible refine cA ?_ _) | (with_reducible refine cN ?_ _) | (with_reducible refine cD ?_))); (case side2 => exact HC0.out); rintro e w' ⟨rfl, ⟨nd, rfl⟩⟩; refine ⟨_, rfl, ?_⟩) | (go_at_call 89; (with_reducible refine (spec_PermValid.calls k _ _ l1 false _ ?side1 ?side2 A5.out).mono ?_); (case side1 => repeat (first | exact HR1.out | (with_reducible refine cA ?_ _) | (with_reducible refine cN ?_ _) | (with_reducible refine cD ?_))); (case side2 => exact HC1.out); rintro e w' ⟨rfl, ⟨nd, rfl⟩⟩))
  go_ret
  exact ⟨by first | rfl | (simp; done) | (simp [*]; done), by repeat (first | exact Drawn0.refl _ | apply Drawn0.step)⟩
 replace c4 := Bool.eq_false_iff.mpr c4; subst c4
 rw [if_neg (show ¬ (false = true) by decide)] at H
 obtain rfl := sI H
 go_enter Try.func102, Try.ntmps102
 go_wp2_with (first | ((with_reducible refine gC (f := 89) rfl ?_); refine zJ (some 6) Try.func89 #[.slice A0 l0.length c0] ?_; (with_reducible refine (spec_PermValid.calls k _ _ l0 false _ ?side1 ?side2 A3.out).mono ?_); (case side1 => repeat (first | exact HR0.out | (with_reducible refine cA ?_ _) | (with_reducible refine cN ?_ _) | (with_reducible refine cD ?_))); (case side2 => exact HC0.out); rintro e w' ⟨rfl, ⟨nd, rfl⟩⟩; refine ⟨_, rfl, ?_⟩))
 go_ret
 exact ⟨by first | rfl | (simp; done) | (simp [*]; done), by repeat (first | exact Drawn0.refl _ | apply Drawn0.step)⟩

/-! ### spec_l1Same: function 79 -/
def spec_l1Same.l0 : Nat → Int → List Int → Int → Option (List Int)
  | 0, _, _, _ => none
  | k + 1, x0, x3, x4 => if x4 < x0 then (if x3.length < 17592186044416 then (spec_l1Same.l0 k x0 (x3 ++ [x4]) (wrap64 (x4 + 1))) else (none)) else (some x3)
def spec_l1Same.f (k : Nat) (a0 : Int) : Option (List Int) := spec_l1Same.l0 k a0 (([] : List Int)) 0
set_option maxHeartbeats 8000000 in
set_option maxRecDepth 100000 in
theorem spec_l1Same.calls (k : Nat) (a0 : Int) (r : List Int) (w : World) (h : spec_l1Same.f k a0 = some r) :
    Calls Try.prog 79 #[.int .i64 a0] w fun e w' => ∃ v0_ : Value, e = .returned (v0_) ∧ Kd.R (Kd.int .i64) 3 w' w.heap.size (fun _ => True) v0_ r ∧ Below w.heap.size w w' := by
 have HB := A0_ (Below.refl w.heap.size w)
 have H : (spec_l1Same.l0 k a0 (([] : List Int)) 0) = some r := h
 clear h
 obtain ⟨y209, hy209⟩ : ∃ y_ : List Int, y_ = (([] : List Int)) := ⟨_, rfl⟩
 replace H : (spec_l1Same.l0 k a0 y209 0) = some r := zH hy209 H
 have Ny209 := A0_ hy209; clear hy209; have H' := A0_ H; clear H
 go_enter Try.func79, Try.ntmps79
 go_wp2_with (first | ((with_reducible refine gD (N := 5) rfl ?_); refine Kd.R_lit (Kd.int .i64) _ 3 ?hg (N := 5) ?hd (xs := ([] : List Int)) (inner := []) (ok := fun _ => True) (okp := fun _ => True) ?hr ?hp (fun _ hk => hk) trivial (Below.refl _ _) (Nat.le_refl _) (by simp) ?_; (case hd => rfl); (case hg => rfl); (case hr => first | (go_simp; done) | (go_simp; rfl)); (case hp => exact (Reps.none _ _)); intro v210 w2 ho3 hb hg_ hnew_; clear hg_ hnew_; (first | rw [← Ny209.out] at ho3 | (simp only [Int.reduceToNat] at ho3; rw [← Ny209.out] at ho3)); have HO211 := A0_ (rL ho3 (bZ (zB_ HB))); replace HB := zB HB hb; clear hb ho3))
 go_loopg [3, 4] k (fun kq v3 v4 w' => ∃ (x3_1 : List Int) (x4_1 : Int), v4 = .int .i64 x4_1 ∧ Aside0 (spec_l1Same.l0 kq a0 x3_1 x4_1 = some r) ∧ Aside0 (kq ≤ k) ∧ Aside0 (Kd.R (Kd.int .i64) 3 w' w.heap.size (fun _ => True) v3 x3_1) ∧ Aside0 (Below w.heap.size w w'))
 case atStart => exact ⟨(y209), (0), zt, H', ⟨Nat.le_refl _⟩, ⟨zR_ HO211⟩, ⟨zB_ HB⟩⟩
 case round =>
  clear H'; (try clear p2); obtain ⟨x3_1, x4_1, rfl, HA, HK1, HO_3, HB⟩ := hrel
  cases gk with
  | zero => exact absurd HA.out (by simp [spec_l1Same.l0])
  | succ k1 =>
   have H := HA.out; clear HA; simp only [spec_l1Same.l0] at H
   by_cases c4 : x4_1 < a0
   ·rw [if_pos c4] at H
    have c4b0 := dT c4; clear c4
    by_cases c5 : x3_1.length < 17592186044416
    ·rw [if_pos c5] at H
     have LMc5 := A0_ c5; clear c5
     obtain ⟨y212, hy212⟩ : ∃ y_ : List Int, y_ = (x3_1 ++ [x4_1]) := ⟨_, rfl⟩
     replace H : (spec_l1Same.l0 k1 a0 y212 (wrap64 (x4_1 + 1))) = some r := zH hy212 H
     have Ny212 := A0_ hy212; clear hy212; have H' := A0_ H; clear H
     go_wp2_with (first | ((with_reducible refine gB (b := .append) (xs := #[.tmp 11, .tmp 13]) rfl ?_); at_builtin; refine Kd.R_append (Kd.int .i64) (w0 := w) w.heap.size rfl (.tmp 11) (.tmp 13) 23 3 (.int .i64 0) 8 rfl Try.underlying23 info3 rfl (by decide) (by omega) u3 x3_1 x4_1 [.int .i64 x4_1] (fun _ => True) (fun _ => False) rfl rfl ?aP (fun _ hk => hk.elim) ?aF ?aO ?aB ?aS ?aL ?_; (case aP => exact rfl); (case aB => exact (zB_ HB)); (case aF => exact (fun _ _ => trivial)); (case aO => exact (zR_ HO_3)); (case aS => exact (bZ (zB_ HB))); (case aL => have := LMc5.out; omega); intro v213 w6 ho hb hg hat; rw [← Ny212.out] at ho; replace HB := A0_ (hb); have HO214 := A0_ (ho); clear HO_3 ho hb hg hat))
     go_roundg k1
     case measure => have := HK1.out; omega
     case rel => exact ⟨(y212), (wrap64 (x4_1 + 1)), zt, H', ⟨by have := HK1.out; omega⟩, ⟨zR_ HO214⟩, ⟨zB_ HB⟩⟩
    rw [if_neg c5] at H
    exact absurd H (by simp)
   rw [if_neg c4] at H; have c4b0 := dF c4; clear c4; obtain rfl := sI H
   go_wp2
   go_ret
   exact ⟨_, by first | rfl | (simp [*] <;> rfl), zR_ HO_3, zB_ HB⟩

end Go.Proofs.Ytmegggomhjgehaa.PFnWinding
