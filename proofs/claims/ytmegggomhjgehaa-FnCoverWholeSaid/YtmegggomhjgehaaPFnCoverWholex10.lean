-- Made by a program of this session (wip/tools) out of the loaded program; not trusted: Lean checks it.
import Derived.Test.YtmegggomhjgehaaPFnCoverWholex0
import Derived.Test.YtmegggomhjgehaaPFnCoverWholex2
import Derived.Test.YtmegggomhjgehaaPFnCoverWholex9
-- packed
namespace Go.Proofs.Ytmegggomhjgehaa.PFnCoverWhole
open Go.RowKit Go.Proofs.YtmegggomhjgehaaW.PrintWords Go.Proofs.YtmegggomhjgehaaW.PrintLast Go.Proofs.YtmegggomhjgehaaW.PrintMore
attribute [local go_sem] max2_int min2_int max_two min_two max_three min_three max_four min_four   -- for this text's walks alone
set_option linter.unusedVariables false
set_option linter.unusedSimpArgs false

/-! ### spec_l9Cover: function 58 -/
mutual
def spec_l9Cover.l0 : Nat → Int → List (List Int) → Int → List Int → List Int → List Int → List Int → Option (List Int × List Int)
  | 0, _, _, _, _, _, _, _ => none
  | k + 1, x1, x2, x8, x378000, x378001, x386000, x386001 => if x8 < (x378000.length : Int) then ((spec_l9Volt.f k x378000 x378001 x2 x8).bind fun t386 => (spec_l9Cover.l1 k x1 x2 x8 t386 0 x378000 x378001 x386000 x386001)) else (some (x386000, x386001))
def spec_l9Cover.l1 : Nat → Int → List (List Int) → Int → List Int → Int → List Int → List Int → List Int → List Int → Option (List Int × List Int)
  | 0, _, _, _, _, _, _, _, _, _ => none
  | k + 1, x1, x2, x8, x9, x10, x378000, x378001, x386000, x386001 => if x10 < x1 then (if 0 ≤ x8 then (if x8 < (x378000.length : Int) then (if x386000.length < 17592186044416 then (if x8 < (x378001.length : Int) then (if 0 ≤ x10 then (if x10 < (x9.length : Int) then (if x386001.length < 17592186044416 then (spec_l9Cover.l1 k x1 x2 x8 x9 (wrap64 (x10 + 1)) x378000 x378001 (x386000 ++ [wrap64 ((wrap64 (x1 * (rd x378000 x8))) + x10)]) (x386001 ++ [wrap64 ((wrap64 (x1 * (rd x378001 x8))) + (rd x9 x10))])) else (none)) else (none)) else (none)) else (none)) else (none)) else (none)) else (none)) else (spec_l9Cover.l0 k x1 x2 (wrap64 (x8 + 1)) x378000 x378001 x386000 x386001)
end
def spec_l9Cover.f (k : Nat) (l0_0 : List Int) (l0_1 : List Int) (a1 : Int) (l2 : List (List Int)) : Option (List Int × List Int) := spec_l9Cover.l0 k a1 l2 0 l0_0 l0_1 (([] : List Int)) (([] : List Int))
def spec_l9Cover.T9 : Bool × List (List Nat × List Nat) := (true, [([], []), ([0], [0]), ([], []), ([], []), ([3], [3]), ([], []), ([4, 5], [4, 5]), ([6], [6]), ([2, 7], [2, 7]), ([], []), ([8, 9], [8, 9]), ([10], [10]), ([1, 11], [1, 11]), ([0, 1, 2, 3, 4, 5, 6, 7, 8, 9, 10, 11, 12], []), ([13, 12, 12, 0, 1, 2, 3, 4, 5, 6, 7, 8, 9, 10, 11, 12], [12, 13])])
def spec_l9Cover.B9 : List Nat := [0, 1, 0, 0, 8, 0, 56, 120, 252, 0, 1020, 2044, 4095, 8191, 16383]
theorem spec_l9Cover.tab9 : rtab .any (opsOf Try.f58 9) = spec_l9Cover.T9 := by kernel_rfl
theorem spec_l9Cover.bits9 : waitsOk spec_l9Cover.T9.2 spec_l9Cover.B9 = true := by kernel_rfl
def spec_l9Cover.T10 : Bool × List (List Nat × List Nat) := (true, [([], []), ([0], [0]), ([], []), ([], []), ([3], [3]), ([], []), ([4, 5], [4, 5]), ([6], [6]), ([2, 7], [2, 7]), ([], []), ([], []), ([9, 10], [9, 10]), ([11], [11]), ([8, 12], [8, 12]), ([13], [13]), ([1, 14], [1, 14]), ([0, 1, 2, 3, 4, 5, 6, 7, 8, 9, 10, 11, 12, 13, 14, 15], []), ([16, 15, 15, 0, 1, 2, 3, 4, 5, 6, 7, 8, 9, 10, 11, 12, 13, 14, 15], [15, 16])])
def spec_l9Cover.B10 : List Nat := [0, 1, 0, 0, 8, 0, 56, 120, 252, 0, 0, 1536, 3584, 8188, 16380, 32767, 65535, 131071]
theorem spec_l9Cover.tab10 : rtab .any (opsOf Try.f58 10) = spec_l9Cover.T10 := by kernel_rfl
theorem spec_l9Cover.bits10 : waitsOk spec_l9Cover.T10.2 spec_l9Cover.B10 = true := by kernel_rfl
set_option maxHeartbeats 8000000 in
set_option maxRecDepth 100000 in
theorem spec_l9Cover.calls (k : Nat) (A0_0 : Option Addr) (c0_0 : Nat) (l0_0 : List Int) (A0_1 : Option Addr) (c0_1 : Nat) (l0_1 : List Int) (a1 : Int) (A2 : Option Addr) (c2 : Nat) (l2 : List (List Int)) (r1 : List Int) (r2 : List Int) (w : World) (hr0_0 : Kd.C (Kd.int .i64) w A0_0 l0_0.length l0_0) (hc0_0 : l0_0.length ≤ c0_0) (hr0_1 : Kd.C (Kd.int .i64) w A0_1 l0_1.length l0_1) (hc0_1 : l0_1.length ≤ c0_1) (hr2 : Kd.C (Kd.slice 3 (Kd.int .i64)) w A2 l2.length l2) (hc2 : l2.length ≤ c2) (h : spec_l9Cover.f k l0_0 l0_1 a1 l2 = some (r1, r2)) :
    Calls Try.prog 58 #[.agg #[.slice A0_0 l0_0.length c0_0, .slice A0_1 l0_1.length c0_1], .int .i64 a1, .slice A2 l2.length c2] w fun e w' => ∃ v0_ v1_ : Value, e = .returned (.agg #[v0_, v1_]) ∧ Kd.R (Kd.int .i64) 3 w' w.heap.size (fun k_ => some k_ ≠ (v1_ : Value).ownBlock) v0_ r1 ∧ Kd.R (Kd.int .i64) 3 w' w.heap.size (fun k_ => some k_ ≠ (v0_ : Value).ownBlock) v1_ r2 ∧ Below w.heap.size w w' := by
 have hu25 := Try.underlying25; have HR0_0 := A0_ hr0_0; have HC0_0 := A0_ hc0_0; clear hr0_0 hc0_0; have HR0_1 := A0_ hr0_1; have HC0_1 := A0_ hc0_1; clear hr0_1 hc0_1; have HR2 := A0_ hr2; have HC2 := A0_ hc2; clear hr2 hc2
 have HB := A0_ (Below.refl w.heap.size w)
 have H : (spec_l9Cover.l0 k a1 l2 0 l0_0 l0_1 (([] : List Int)) (([] : List Int))) = some (r1, r2) := h
 clear h
 obtain ⟨y379, hy379⟩ : ∃ y_ : List Int, y_ = (([] : List Int)) := ⟨_, rfl⟩
 replace H : (spec_l9Cover.l0 k a1 l2 0 l0_0 l0_1 y379 (([] : List Int))) = some (r1, r2) := zH hy379 H
 have Ny379 := A0_ hy379; clear hy379
 obtain ⟨y382, hy382⟩ : ∃ y_ : List Int, y_ = (([] : List Int)) := ⟨_, rfl⟩
 replace H : (spec_l9Cover.l0 k a1 l2 0 l0_0 l0_1 y379 y382) = some (r1, r2) := zH hy382 H
 have Ny382 := A0_ hy382; clear hy382; have H' := A0_ H; clear H
 go_enter Try.func58, Try.ntmps58
 go_wp2_with (first | ((with_reducible refine gD (N := 3) rfl ?_); refine zX (N := 3) (cs := #[.slice A0_0 l0_0.length c0_0, .slice A0_1 l0_1.length c0_1]) (t := 25) ?_; intro gb377 hg w4 hbox hb; have BK377 := A0_ (hbox); have GW377 := zG hg HB; have GE377 := zG hg HB; replace HB := zB HB hb; clear hb hbox hg) | ((with_reducible refine gD (N := 6) rfl ?_); refine zX (N := 6) (cs := #[.slice none 0 0, .slice none 0 0]) (t := 25) ?_; intro gb378 hg w5 hbox hb; have BK378 := A0_ (hbox); have GW378 := zG hg HB; have GE378 := zG hg HB; replace HB := zB HB hb; have NB377_378 := zL hg BK377; have NB378_377 := zM hg BK377; replace BK377 := zK BK377 hb; clear hb hbox hg) | ((with_reducible refine gD (N := 11) rfl ?_); refine Kd.R_lit (Kd.int .i64) _ 3 ?hg (N := 11) ?hd (xs := ([] : List Int)) (inner := []) (ok := fun _ => True) (okp := fun _ => True) ?hr ?hp (fun _ hk => hk) trivial (Below.refl _ _) (Nat.le_refl _) (by simp) ?_; (case hd => rfl); (case hg => rfl); (case hr => first | (go_simp; done) | (go_simp; rfl)); (case hp => exact (Reps.none _ _)); intro v380 w6 ho7 hb hg_ hnew_; clear hg_ hnew_; (first | rw [← Ny379.out] at ho7 | (simp only [Int.reduceToNat] at ho7; rw [← Ny379.out] at ho7)); have HO381 := A0_ (rL ho7 (bZ (zB_ HB))); replace BK377 := zK BK377 hb; replace BK378 := zK BK378 hb; replace HB := zB HB hb; clear hb ho7) | ((with_reducible refine gD (N := 12) rfl ?_); refine Kd.R_lit (Kd.int .i64) _ 3 ?hg (N := 12) ?hd (xs := ([] : List Int)) (inner := []) (ok := fun _ => True) (okp := fun _ => True) ?hr ?hp (fun _ hk => hk) trivial (Below.refl _ _) (Nat.le_refl _) (by simp) ?_; (case hd => rfl); (case hg => rfl); (case hr => first | (go_simp; done) | (go_simp; rfl)); (case hp => exact (Reps.none _ _)); intro v383 w8 ho9 hb hg_ hnew_; clear hg_ hnew_; (first | rw [← Ny382.out] at ho9 | (simp only [Int.reduceToNat] at ho9; rw [← Ny382.out] at ho9)); have HO384 := A0_ (rL (Kd.R_new' ho9 (rX (zR_ HO381))) (bZ (zB_ HB))); replace HO381 := A0_ (Kd.R_elder' (zR_ HO381) (Kd.R_base ho9) hb); replace BK377 := zK BK377 hb; replace BK378 := zK BK378 hb; replace HB := zB HB hb; clear hb ho9; obtain ⟨Ao10, co10, eo10⟩ := rS HO384.out; subst eo10; obtain ⟨Ao11, co11, eo11⟩ := rS HO381.out; subst eo11) | ((with_reducible refine gD (N := 7) rfl ?_); refine zX (N := 7) (cs := #[.slice none 0 0, .slice none 0 0]) (t := 25) ?_; intro gb385 hg w12 hbox hb; replace HO381 := zR HO381 hb; replace HO384 := zR HO384 hb; have BK385 := A0_ (hbox); have GW385 := zG hg HB; have GE385 := zG hg HB; replace HB := zB HB hb; have NB377_385 := zL hg BK377; have NB385_377 := zM hg BK377; replace BK377 := zK BK377 hb; have NB378_385 := zL hg BK378; have NB385_378 := zM hg BK378; replace BK378 := zK BK378 hb; clear hb hbox hg; have hnb13 := NB385_377.out; have hnc13 := NB377_385.out; have hnb14 := NB385_378.out; have hnc14 := NB378_385.out; have hcz15_0 := zc0 BK385; have hcz15_1 := zc1 BK385; have hfz15_0 := kF BK385.out 0; have hfz15_1 := kF BK385.out 1))
 go_loopg [8] k (fun kq v8 w' => ∃ (x8_1 : Int) (x386000_1 : List Int) (x386001_1 : List Int) (u386000 : Value) (u386001 : Value), v8 = .int .i64 x8_1 ∧ Aside0 (spec_l9Cover.l0 kq a1 l2 x8_1 l0_0 l0_1 x386000_1 x386001_1 = some (r1, r2)) ∧ Aside0 (kq ≤ k) ∧ Aside0 (Kd.R (Kd.int .i64) 3 w' w.heap.size (fun k_ => some k_ ≠ (u386001 : Value).ownBlock) u386000 x386000_1) ∧ Aside0 (Kd.R (Kd.int .i64) 3 w' w.heap.size (fun k_ => some k_ ≠ (u386000 : Value).ownBlock) u386001 x386001_1) ∧ Aside0 (w'.heap[gb377]? = some (.cells #[(.slice A0_0 l0_0.length c0_0), (.slice A0_1 l0_1.length c0_1)] 25 (0, 0))) ∧ Aside0 (w'.heap[gb378]? = some (.cells #[(.slice none 0 0), (.slice none 0 0)] 25 (0, 0))) ∧ Aside0 (w'.heap[gb385]? = some (.cells #[u386000, u386001] 25 (0, 0))) ∧ Aside0 (Below w.heap.size w w'))
 case atStart => exact ⟨(0), (y379), (y382), (.slice Ao11 y379.length co11), (.slice Ao10 y382.length co10), zt, H', ⟨Nat.le_refl _⟩, ⟨by (with_reducible repeat (first | apply rA | apply rN | apply rD)); exact rM (rF (p := ⟨gb385, 1, none⟩) (rF (p := ⟨gb385, 0, none⟩) (rY HO381.out BK385.out (by decide)) (fun _ hk => hk.2) (.slice Ao11 y379.length co11)) (fun _ hk => hk.2) (.slice Ao10 y382.length co10)) (fun _ hk => hk.1.2)⟩, ⟨by (with_reducible repeat (first | apply rA | apply rN | apply rD)); exact rM (rF (p := ⟨gb385, 1, none⟩) (rF (p := ⟨gb385, 0, none⟩) (rY HO384.out BK385.out (by decide)) (fun _ hk => hk.2) (.slice Ao11 y379.length co11)) (fun _ hk => hk.2) (.slice Ao10 y382.length co10)) (fun _ hk => hk.1.2)⟩, ⟨by (with_reducible repeat (first | refine kN ?_ _ | refine kD ?_ | refine kA ?_ _)); refine blk_far ?_ NB377_385.out _; (with_reducible repeat (first | refine kN ?_ _ | refine kD ?_ | refine kA ?_ _)); refine blk_far ?_ NB377_385.out _; (with_reducible repeat (first | refine kN ?_ _ | refine kD ?_ | refine kA ?_ _)); exact BK377.out⟩, ⟨by (with_reducible repeat (first | refine kN ?_ _ | refine kD ?_ | refine kA ?_ _)); refine blk_far ?_ NB378_385.out _; (with_reducible repeat (first | refine kN ?_ _ | refine kD ?_ | refine kA ?_ _)); refine blk_far ?_ NB378_385.out _; (with_reducible repeat (first | refine kN ?_ _ | refine kD ?_ | refine kA ?_ _)); exact BK378.out⟩, ⟨by (with_reducible repeat (first | refine kN ?_ _ | refine kD ?_ | refine kA ?_ _)); refine blk_put (cs := #[.slice Ao11 y379.length co11, .slice none 0 0]) ?_ 1 _ rfl; (with_reducible repeat (first | refine kN ?_ _ | refine kD ?_ | refine kA ?_ _)); refine blk_put (cs := #[.slice none 0 0, .slice none 0 0]) ?_ 0 _ rfl; (with_reducible repeat (first | refine kN ?_ _ | refine kD ?_ | refine kA ?_ _)); exact BK385.out⟩, ⟨zB_ HB⟩⟩
 case round =>
  clear H'; (try clear c1); (try clear c2); (try clear p2); (try clear c5); (try clear c13); (try clear c14); (try clear hcz15_0); (try clear hcz15_1); (try clear hfz15_0); (try clear hfz15_1); obtain ⟨x8_1, x386000_1, x386001_1, u386000, u386001, rfl, HA, HK1, HO_386000, HO_386001, BK377, BK378, BK385, HB⟩ := hrel
  cases gk with
  | zero => exact absurd HA.out (by simp [spec_l9Cover.l0])
  | succ k1 =>
   have H := HA.out; clear HA; simp only [spec_l9Cover.l0] at H
   by_cases c16 : x8_1 < (l0_0.length : Int)
   ·rw [if_pos c16] at H
    have c16b0 := dT c16; clear c16; obtain ⟨t386, A17, H⟩ := zbind H; have H' := A0_ H; clear H; have hnb18 := NB377_378.out; have hnc18 := NB378_377.out; have hnb19 := NB377_385.out; have hnc19 := NB385_377.out; have hcz20_0 := zc0 BK377; have hcz20_1 := zc1 BK377; have hfz20_0 := kF BK377.out 0; have hfz20_1 := kF BK377.out 1
    go_wp2_with (first | ((with_reducible refine gC (f := 96) rfl ?_); refine zJ (some 24) Try.func96 #[.agg #[.slice A0_0 l0_0.length c0_0, .slice A0_1 l0_1.length c0_1], .slice A2 l2.length c2, .int .i64 x8_1] ?_; (with_reducible refine (spec_l9Volt.calls k1 _ _ l0_0 _ _ l0_1 (fun k_ => k_ < w.heap.size) _ _ l2 x8_1 t386 _ ?side1 ?side2 ?side3 ?side4 ?side5 A17.out).mono ?_); (case side1 => exact zC HR0_0 HB); (case side2 => exact HC0_0.out); (case side3 => exact zC HR0_1 HB); (case side4 => exact HC0_1.out); (case side5 => exact Kd.V_mk HC2.out (Kd.F_below (Kd.C_F (Kd.heap_slice 3 (Kd.heap_int .i64)) HR2.out) (zB_ HB))); rintro e w21 ⟨v387, rfl, ho0, hb⟩; refine ⟨_, rfl, ?_⟩; have HO388 := A0_ (Kd.V_lower (Kd.V_mono (ok' := fun k_ => some k_ ≠ (u386000 : Value).ownBlock ∧ some k_ ≠ (u386001 : Value).ownBlock ∧ k_ ≠ gb377 ∧ k_ ≠ gb378 ∧ k_ ≠ gb385) ho0 (fun k_ hk_ => ⟨Or.elim hk_ (fun hs_ => fun e_ => Nat.not_le.2 hs_ (Kd.R_base HO_386000.out k_ e_.symm)) (fun hn_ => (Kd.fresh' (rX (zR_ HO_386000)) k_ hn_)), Or.elim hk_ (fun hs_ => fun e_ => Nat.not_le.2 hs_ (Kd.R_base HO_386001.out k_ e_.symm)) (fun hn_ => (Kd.fresh' (rX (zR_ HO_386001)) k_ hn_)), Or.elim hk_ (fun hs_ => fun e_ => Nat.not_le.2 hs_ (by rw [e_]; exact GW377.out)) (fun hn_ => (Kd.freshB (g := gb377) (o := .cells #[.slice A0_0 l0_0.length c0_0, .slice A0_1 l0_1.length c0_1] 25 (0, 0)) (zK_ BK377) k_ hn_)), Or.elim hk_ (fun hs_ => fun e_ => Nat.not_le.2 hs_ (by rw [e_]; exact GW378.out)) (fun hn_ => (Kd.freshB (g := gb378) (o := .cells #[.slice none 0 0, .slice none 0 0] 25 (0, 0)) (zK_ BK378) k_ hn_)), Or.elim hk_ (fun hs_ => fun e_ => Nat.not_le.2 hs_ (by rw [e_]; exact GW385.out)) (fun hn_ => (Kd.freshB (g := gb385) (o := .cells #[u386000, u386001] 25 (0, 0)) (zK_ BK385) k_ hn_))⟩)) (bZ (zB_ HB))); replace HO_386000 := zR HO_386000 hb; replace HO_386001 := zR HO_386001 hb; replace BK377 := zK BK377 hb; replace BK378 := zK BK378 hb; replace BK385 := zK BK385 hb; replace HB := zB HB hb; (try clear hb); (try clear ho0)))
    go_loopg [10] k1 (fun kq v10 w' => ∃ (x10_2 : Int) (x386000_2 : List Int) (x386001_2 : List Int) (u386000 : Value) (u386001 : Value), v10 = .int .i64 x10_2 ∧ Aside0 (spec_l9Cover.l1 kq a1 l2 x8_1 t386 x10_2 l0_0 l0_1 x386000_2 x386001_2 = some (r1, r2)) ∧ Aside0 (kq ≤ k1) ∧ Aside0 (Kd.V (Kd.int .i64) 3 w' w.heap.size (fun k_ => some k_ ≠ (u386000 : Value).ownBlock ∧ some k_ ≠ (u386001 : Value).ownBlock ∧ k_ ≠ gb377 ∧ k_ ≠ gb378 ∧ k_ ≠ gb385) v387 t386) ∧ Aside0 (Kd.R (Kd.int .i64) 3 w' w.heap.size (fun k_ => some k_ ≠ (u386001 : Value).ownBlock) u386000 x386000_2) ∧ Aside0 (Kd.R (Kd.int .i64) 3 w' w.heap.size (fun k_ => some k_ ≠ (u386000 : Value).ownBlock) u386001 x386001_2) ∧ Aside0 (w'.heap[gb377]? = some (.cells #[(.slice A0_0 l0_0.length c0_0), (.slice A0_1 l0_1.length c0_1)] 25 (0, 0))) ∧ Aside0 (w'.heap[gb378]? = some (.cells #[(.slice none 0 0), (.slice none 0 0)] 25 (0, 0))) ∧ Aside0 (w'.heap[gb385]? = some (.cells #[u386000, u386001] 25 (0, 0))) ∧ Aside0 (Below w.heap.size w w'))
    case atStart => exact ⟨(0), (x386000_1), (x386001_1), (u386000), (u386001), zt, H', ⟨Nat.le_refl _⟩, ⟨by (with_reducible repeat (first | apply Kd.V_alloc | apply Kd.V_drewN | apply Kd.V_drew)); exact HO388.out⟩, ⟨zR_ HO_386000⟩, ⟨zR_ HO_386001⟩, ⟨zK_ BK377⟩, ⟨zK_ BK378⟩, ⟨zK_ BK385⟩, ⟨zB_ HB⟩⟩
    case round =>
     clear H'; (try clear c1); (try clear c2); (try clear p2); (try clear c5); (try clear c9); (try clear c13); (try clear c14); (try clear c16); (try clear c16b0); (try clear c18); (try clear c19); (try clear hcz15_0); (try clear hcz15_1); (try clear hcz20_0); (try clear hcz20_1); (try clear hfz15_0); (try clear hfz15_1); (try clear hfz20_0); (try clear hfz20_1); (try clear p2); obtain ⟨x10_2, x386000_2, x386001_2, u386000, u386001, rfl, HA, HK2, HO_9, HO_386000, HO_386001, BK377, BK378, BK385, HB⟩ := hrel
     cases gk with
     | zero => exact absurd HA.out (by simp [spec_l9Cover.l1])
     | succ k2 =>
      have H := HA.out; clear HA; simp only [spec_l9Cover.l1] at H
      by_cases c22 : x10_2 < a1
      ·rw [if_pos c22] at H
       have c22b0 := dT c22; clear c22
       by_cases c23 : 0 ≤ x8_1
       ·rw [if_pos c23] at H
        have c23b0 := dT c23; clear c23
        by_cases c24 : x8_1 < (l0_0.length : Int)
        ·rw [if_pos c24] at H
         have c24b0 := dT c24; clear c24
         by_cases c25 : x386000_2.length < 17592186044416
         ·rw [if_pos c25] at H
          have LMc25 := A0_ c25; clear c25
          obtain ⟨y390, hy390⟩ : ∃ y_ : List Int, y_ = (x386000_2 ++ [wrap64 ((wrap64 (a1 * (rd l0_0 x8_1))) + x10_2)]) := ⟨_, rfl⟩
          replace H : (if x8_1 < (l0_1.length : Int) then (if 0 ≤ x10_2 then (if x10_2 < (t386.length : Int) then (if x386001_2.length < 17592186044416 then (spec_l9Cover.l1 k2 a1 l2 x8_1 t386 (wrap64 (x10_2 + 1)) l0_0 l0_1 y390 (x386001_2 ++ [wrap64 ((wrap64 (a1 * (rd l0_1 x8_1))) + (rd t386 x10_2))])) else (none)) else (none)) else (none)) else (none)) = some (r1, r2) := zH hy390 H
          have Ny390 := A0_ hy390; clear hy390
          by_cases c26 : x8_1 < (l0_1.length : Int)
          ·rw [if_pos c26] at H
           have c26b0 := dT c26; clear c26
           by_cases c27 : 0 ≤ x10_2
           ·rw [if_pos c27] at H
            have c27b0 := dT c27; clear c27
            by_cases c28 : x10_2 < (t386.length : Int)
            ·rw [if_pos c28] at H
             have c28b0 := dT c28; clear c28
             by_cases c29 : x386001_2.length < 17592186044416
             ·rw [if_pos c29] at H
              have LMc29 := A0_ c29; clear c29
              obtain ⟨y395, hy395⟩ : ∃ y_ : List Int, y_ = (x386001_2 ++ [wrap64 ((wrap64 (a1 * (rd l0_1 x8_1))) + (rd t386 x10_2))]) := ⟨_, rfl⟩
              replace H : (spec_l9Cover.l1 k2 a1 l2 x8_1 t386 (wrap64 (x10_2 + 1)) l0_0 l0_1 y390 y395) = some (r1, r2) := zH hy395 H
              have Ny395 := A0_ hy395; clear hy395; have H' := A0_ H; clear H
              try go_wp2
              replace HO_9 := A0_ (Kd.V_drew HO_9.out)
              replace HO_386000 := A0_ (rD HO_386000.out)
              replace HO_386001 := A0_ (rD HO_386001.out)
              replace BK377 := A0_ (kD BK377.out)
              replace BK378 := A0_ (kD BK378.out)
              replace BK385 := A0_ (kD BK385.out)
              replace HB := A0_ (bD HB.out)
              have p389 : 0 ≤ (x8_1 : Int) := zd
              have q389 : x8_1 < (l0_0.length : Int) := zd
              obtain ⟨ad389, e389, hx389_0⟩ := tI HR0_0.out x8_1 p389 q389; have hw389_0 := hx389_0
              cases e389
              try replace hx389_0 := (HB.out.cell (wL w _ hx389_0)).trans hx389_0
              replace p389 := eq_true p389; replace q389 := eq_true q389
              refine start_ (n := 15) (S := fun w' => w'.cell? ⟨gb385, 0, none⟩ = some (u386000) ∧ w'.cell? ⟨gb385, 1, none⟩ = some (u386001) ∧ w'.cell? ⟨gb377, 0, none⟩ = some (.slice (some ad389) l0_0.length c0_0) ∧ w'.cell? ⟨gb377, 1, none⟩ = some (.slice A0_1 l0_1.length c0_1) ∧ w'.cell? (ad389.add (x8_1).toNat) = some (.int .i64 (rd l0_0 x8_1))) (ds := [14]) #[false, false, false, false, false, false, false, false, false, false, false, false, false, false, false] (by kernel_rfl) rfl rfl ⟨(kC BK385.out 0).trans rfl, (kC BK385.out 1).trans rfl, (kC BK377.out 0).trans rfl, (kC BK377.out 1).trans rfl, ((HB.out.cell (wL w _ hw389_0)).trans hw389_0)⟩ (fun hHeld => ?_); refine with_tabW spec_l9Cover.tab9 spec_l9Cover.bits9 (fun HT_ HW_ => ?_)
              generalize wr.drew = w30 at HO_9 HO_386000 HO_386001 BK377 BK378 BK385 HB hx389_0 hHeld ⊢
              refine zP 0 (some 30) #[true,false,false,false,false,false,false,false,false,false,false,false,false,false,false] ?_
              refine zP 2 (some 32) #[true,false,true,false,false,false,false,false,false,false,false,false,false,false,false] ?_
              refine zP 3 (some 33) #[true,false,true,true,false,false,false,false,false,false,false,false,false,false,false] ?_
              refine zP 5 (some 35) #[true,false,true,true,false,true,false,false,false,false,false,false,false,false,false] ?_
              refine zP 9 (some 39) #[true,false,true,true,false,true,false,false,false,true,false,false,false,false,false] ?_
              refine take_ (i := 1) (N := some 31) (v := ?_) (a' := ?_) #[true, true, true, true, false, true, false, false, false, true, false, false, false, false, false] rfl rfl (take_ofW HT_.out HW_.out (by kernel_rfl)) (fun _ _ _ h => h) (Or.inl ⟨by rfl, ?_⟩) hHeld ?_ ?_
              rotate_left
              ·rintro w' ⟨s0, s1, s2, s3, s4⟩
               go_simp
               with_reducible rfl
              rotate_left
              ·simp only [Act.put, List.setIfInBounds_toArray, List.set_cons_zero, List.set_cons_succ, i64_w, i32_w]
               rfl
              refine take_ (i := 4) (N := some 34) (v := ?_) (a' := ?_) #[true, true, true, true, true, true, false, false, false, true, false, false, false, false, false] rfl rfl (take_ofW HT_.out HW_.out (by kernel_rfl)) (fun _ _ _ h => h) (Or.inl ⟨by rfl, ?_⟩) hHeld ?_ ?_
              rotate_left
              ·rintro w' ⟨s0, s1, s2, s3, s4⟩
               go_simp
               with_reducible rfl
              rotate_left
              ·simp only [Act.put, List.setIfInBounds_toArray, List.set_cons_zero, List.set_cons_succ, i64_w, i32_w]
               rfl
              refine zP 6 (some 36) #[true,true,true,true,true,true,true,false,false,true,false,false,false,false,false] ?_
              refine take_ (i := 7) (N := some 37) (v := ?_) (a' := ?_) #[true, true, true, true, true, true, true, true, false, true, false, false, false, false, false] rfl rfl (take_ofW HT_.out HW_.out (by kernel_rfl)) (fun _ _ _ h => h) (Or.inl ⟨by rfl, ?_⟩) hHeld ?_ ?_
              rotate_left
              ·rintro w' ⟨s0, s1, s2, s3, s4⟩
               go_simp
               with_reducible rfl
              rotate_left
              ·simp only [Act.put, List.setIfInBounds_toArray, List.set_cons_zero, List.set_cons_succ, i64_w, i32_w]
               rfl
              refine zP 8 (some 38) #[true,true,true,true,true,true,true,true,true,true,false,false,false,false,false] ?_
              refine zP 10 (some 40) #[true,true,true,true,true,true,true,true,true,true,true,false,false,false,false] ?_
              refine one_ (i := 11) (N := some 41) #[true, true, true, true, true, true, true, true, true, true, true, true, false, false, false] rfl rfl (one_of HT_.out (by kernel_rfl)) (by decide) (fun K hK => ?_)
              refine value_ (w1 := ?_) (v := ?_) (by rfl) rfl ?_ ?_
              rotate_left 2
              ·go_simp
               constructor
               ·rfl
               rfl
              refine hK.out _ _ ⟨(kC (kA BK385.out _) 0).trans rfl, (kC (kA BK385.out _) 1).trans rfl, (kC (kA BK377.out _) 0).trans rfl, (kC (kA BK377.out _) 1).trans rfl, (World.cell?_alloc_lt _ _ _ (wL _ _ (((HB.out.cell (wL w _ hw389_0)).trans hw389_0)))).trans (((HB.out.cell (wL w _ hw389_0)).trans hw389_0))⟩ (fun hHeld => ?_)
              clear hK K
              refine norm_ (a' := ?_) ?_ ?_
              rotate_left
              ·show Act.put _ (some 41) _ = _
               simp only [Act.put, List.setIfInBounds_toArray, List.set_cons_zero, List.set_cons_succ, i64_w, i32_w]
               rfl
              refine one_ (i := 12) (N := some 42) #[true, true, true, true, true, true, true, true, true, true, true, true, true, false, false] rfl rfl (one_of HT_.out (by kernel_rfl)) (by decide) (fun K hK => ?_)
              refine Kd.R_append_step (Kd.int .i64) (w0 := w) w.heap.size (by rfl) (.tmp 31) (.tmp 41) 23 3 (.int .i64 0) 8 rfl Try.underlying23 info3 rfl (by decide) (by omega) u386000 x386000_2 (wrap64 ((wrap64 (a1 * (rd l0_0 x8_1))) + x10_2)) [.int .i64 (wrap64 ((wrap64 (a1 * (rd l0_0 x8_1))) + x10_2))] (fun k_ => some k_ ≠ (u386001 : Value).ownBlock) (fun _ => False) rfl rfl ?aP (fun _ hk => hk.elim) ?aF ?aO ?aB ?aS ?aL ?_
              (case aP => exact rfl)
              (case aB => exact (zB_ HB))
              (case aF => exact (fun k_ hk => Kd.fresh' (rX (zR_ HO_386001)) k_ hk))
              (case aO => exact (zR_ HO_386000))
              (case aS => exact (bZ (zB_ HB)))
              (case aL => have := LMc25.out; omega)
              intro v391 w31 ho hb hg hat
              rw [← Ny390.out] at ho
              replace HO_9 := A0_ (Kd.V_afterv (ok := (fun k_ => some k_ ≠ (u386001 : Value).ownBlock ∧ k_ ≠ gb377 ∧ k_ ≠ gb378 ∧ k_ ≠ gb385)) (by (with_reducible repeat (first | apply Kd.V_alloc | apply Kd.V_drewN | apply Kd.V_drew)); exact Kd.V_mono HO_9.out (fun _ hk => ⟨⟨hk.2.1, ⟨hk.2.2.1, ⟨hk.2.2.2.1, hk.2.2.2.2⟩⟩⟩, hk.1⟩)) hg hat)
              replace HO_386001 := A0_ (Kd.R_after (ok := (fun _ => True)) (zmR HO_386001 (fun _ hk => ⟨trivial, hk⟩)) hg hat)
              replace BK377 := A0_ (blk_grown (g := gb377) (o := .cells #[.slice (some ad389) l0_0.length c0_0, .slice A0_1 l0_1.length c0_1] 25 (0, 0)) (zK_ BK377) hg (Kd.R_ne HO_386000.out BK377.out (by decide)))
              replace BK378 := A0_ (blk_grown (g := gb378) (o := .cells #[.slice none 0 0, .slice none 0 0] 25 (0, 0)) (zK_ BK378) hg (Kd.R_ne HO_386000.out BK378.out (by decide)))
              replace BK385 := A0_ (blk_grown (g := gb385) (o := .cells #[u386000, u386001] 25 (0, 0)) (zK_ BK385) hg (Kd.R_ne HO_386000.out BK385.out (by decide)))
              replace HB := A0_ (hb)
              have HO392 := A0_ (ho)
              clear HO_386000 ho hb hg hat; obtain ⟨Ao32, co32, eo32⟩ := rS HO392.out
              (first | subst eo32 | (injection eo32 with f1_ f2_ f3_; have f4_ := f1_.symm; have f5_ := f3_.symm; clear f1_ f2_ f3_; subst f4_; subst f5_))
              refine hK.out _ _ ⟨(kC BK385.out 0).trans rfl, (kC BK385.out 1).trans rfl, (kC BK377.out 0).trans rfl, (kC BK377.out 1).trans rfl, ((HB.out.cell (wL w _ hw389_0)).trans hw389_0)⟩ (fun hHeld => ?_)
              clear hK K
              refine norm_ (a' := ?_) ?_ ?_
              rotate_left
              ·show Act.put _ (some 42) _ = _
               simp only [Act.put, List.setIfInBounds_toArray, List.set_cons_zero, List.set_cons_succ, i64_w, i32_w]
               rfl
              refine zP 13 (some 43) #[true,true,true,true,true,true,true,true,true,true,true,true,true,true,false] ?_
              refine last_ (i := 14) (N := none) #[true, true, true, true, true, true, true, true, true, true, true, true, true, true, true] rfl rfl (one_of HT_.out (by kernel_rfl)) (by decide) (fun K hK => ?_)
              have hs33 : w31.cell? ⟨gb385, 0, none⟩ = some (u386000) := (kC BK385.out 0).trans rfl
              have hfs33 := kF BK385.out 0; have hns33_0 := NB377_385.out; have hns33_1 := NB378_385.out; have hms33_0 := NB385_377.out; have hms33_1 := NB385_378.out
              refine skip_ (w1 := ?_) (by rfl) rfl ?_ ?_
              rotate_left
              ·go_simp
               rfl
              refine hK.out _ _ ?_
              clear hK K
              refine done_ (done_of HT_.out (by kernel_rfl)) ?_
              try go_wp2
              have n0_ : Aside0 (Kd.V (Kd.int .i64) 3 (w31.setCell ⟨gb385, 0, none⟩ (.slice Ao32 y390.length co32)) w.heap.size (fun k_ => some k_ ≠ (u386001 : Value).ownBlock ∧ some k_ ≠ (.slice Ao32 y390.length co32 : Value).ownBlock ∧ k_ ≠ gb377 ∧ k_ ≠ gb378 ∧ k_ ≠ gb385) v387 t386) := ⟨by (with_reducible repeat (first | apply Kd.V_alloc | apply Kd.V_drewN | apply Kd.V_drew)); exact Kd.V_mono (Kd.V_far (p := ⟨gb385, 0, none⟩) (Kd.V_mono HO_9.out (fun k_ hk => (⟨hk, hk.1.2.2.2⟩ : _ ∧ k_ ≠ gb385))) (fun _ hk => hk.2) (.slice Ao32 y390.length co32)) (fun _ hk => ⟨hk.1.1.1, ⟨hk.1.2, ⟨hk.1.1.2.1, ⟨hk.1.1.2.2.1, hk.1.1.2.2.2⟩⟩⟩⟩)⟩
              have n1_ : Aside0 (Kd.R (Kd.int .i64) 3 (w31.setCell ⟨gb385, 0, none⟩ (.slice Ao32 y390.length co32)) w.heap.size (fun k_ => some k_ ≠ (.slice Ao32 y390.length co32 : Value).ownBlock) u386001 x386001_2) := ⟨by (with_reducible repeat (first | apply rA | apply rN | apply rD)); exact rM (rF (p := ⟨gb385, 0, none⟩) (rY HO_386001.out BK385.out (by decide)) (fun _ hk => hk.2) (.slice Ao32 y390.length co32)) (fun _ hk => hk.1.2)⟩
              have n2_ : Aside0 (Kd.R (Kd.int .i64) 3 (w31.setCell ⟨gb385, 0, none⟩ (.slice Ao32 y390.length co32)) w.heap.size (fun k_ => some k_ ≠ (u386001 : Value).ownBlock) (.slice Ao32 y390.length co32) y390) := ⟨by (with_reducible repeat (first | apply rA | apply rN | apply rD)); exact rM (rF (p := ⟨gb385, 0, none⟩) (rY HO392.out BK385.out (by decide)) (fun _ hk => hk.2) (.slice Ao32 y390.length co32)) (fun _ hk => hk.1)⟩
              have n3_ : Aside0 ((w31.setCell ⟨gb385, 0, none⟩ (.slice Ao32 y390.length co32)).heap[gb377]? = some (.cells #[.slice (some ad389) l0_0.length c0_0, .slice A0_1 l0_1.length c0_1] 25 (0, 0))) := ⟨by (with_reducible repeat (first | refine kN ?_ _ | refine kD ?_ | refine kA ?_ _)); refine blk_far ?_ NB377_385.out _; (with_reducible repeat (first | refine kN ?_ _ | refine kD ?_ | refine kA ?_ _)); exact BK377.out⟩
              have n4_ : Aside0 ((w31.setCell ⟨gb385, 0, none⟩ (.slice Ao32 y390.length co32)).heap[gb378]? = some (.cells #[.slice none 0 0, .slice none 0 0] 25 (0, 0))) := ⟨by (with_reducible repeat (first | refine kN ?_ _ | refine kD ?_ | refine kA ?_ _)); refine blk_far ?_ NB378_385.out _; (with_reducible repeat (first | refine kN ?_ _ | refine kD ?_ | refine kA ?_ _)); exact BK378.out⟩
              have n5_ : Aside0 ((w31.setCell ⟨gb385, 0, none⟩ (.slice Ao32 y390.length co32)).heap[gb385]? = some (.cells #[.slice Ao32 y390.length co32, u386001] 25 (0, 0))) := ⟨by (with_reducible repeat (first | refine kN ?_ _ | refine kD ?_ | refine kA ?_ _)); refine blk_put (cs := #[u386000, u386001]) ?_ 0 _ rfl; (with_reducible repeat (first | refine kN ?_ _ | refine kD ?_ | refine kA ?_ _)); exact BK385.out⟩
              have n6_ : Aside0 (Below w.heap.size w (w31.setCell ⟨gb385, 0, none⟩ (.slice Ao32 y390.length co32))) := ⟨zB_ HB⟩
              (try clear HO_9); (try clear HO_386001); (try clear HO392); (try clear BK377); (try clear BK378); (try clear BK385); (try clear HB)
              generalize (w31.setCell ⟨gb385, 0, none⟩ (.slice Ao32 y390.length co32)) = w34 at n0_ n1_ n2_ n3_ n4_ n5_ n6_ ⊢
              have HO_9 := n0_; have HO_386001 := n1_; have HO392 := n2_; have BK377 := n3_; have BK378 := n4_; have BK385 := n5_; have HB := n6_; clear n0_ n1_ n2_ n3_ n4_ n5_ n6_
              replace HO_9 := A0_ (Kd.V_drew HO_9.out)
              replace HO_386001 := A0_ (rD HO_386001.out)
              replace HO392 := A0_ (rD HO392.out)
              replace BK377 := A0_ (kD BK377.out)
              replace BK378 := A0_ (kD BK378.out)
              replace BK385 := A0_ (kD BK385.out)
              replace HB := A0_ (bD HB.out)
              have p393 : 0 ≤ (x8_1 : Int) := zd
              have q393 : x8_1 < (l0_1.length : Int) := zd
              obtain ⟨ad393, e393, hx393_0⟩ := tI HR0_1.out x8_1 p393 q393; have hw393_0 := hx393_0
              cases e393
              try replace hx393_0 := (HB.out.cell (wL w _ hx393_0)).trans hx393_0
              replace p393 := eq_true p393; replace q393 := eq_true q393; obtain ⟨Ao36, co36, eo36⟩ := Kd.V_slice HO_9.out
              (first | subst eo36 | (injection eo36 with f1_ f2_ f3_; have f4_ := f1_.symm; have f5_ := f3_.symm; clear f1_ f2_ f3_; subst f4_; subst f5_))
              have p394 : 0 ≤ (x10_2 : Int) := zd
              have q394 : x10_2 < (t386.length : Int) := zd
              obtain ⟨ad394, e394, hx394_0⟩ := tI (Kd.V_reads' HO_9.out).2.2 x10_2 p394 q394
              cases e394
              replace p394 := eq_true p394; replace q394 := eq_true q394
              refine start_ (n := 18) (S := fun w' => w'.cell? ⟨gb385, 0, none⟩ = some (.slice Ao32 y390.length co32) ∧ w'.cell? ⟨gb385, 1, none⟩ = some (u386001) ∧ w'.cell? ⟨gb377, 0, none⟩ = some (.slice (some ad389) l0_0.length c0_0) ∧ w'.cell? ⟨gb377, 1, none⟩ = some (.slice (some ad393) l0_1.length c0_1) ∧ w'.cell? (ad393.add (x8_1).toNat) = some (.int .i64 (rd l0_1 x8_1)) ∧ w'.cell? (ad394.add (x10_2).toNat) = some (.int .i64 (rd t386 x10_2))) (ds := [15, 17]) #[false, false, false, false, false, false, false, false, false, false, false, false, false, false, false, false, false, false] (by kernel_rfl) rfl rfl ⟨(kC BK385.out 0).trans rfl, (kC BK385.out 1).trans rfl, (kC BK377.out 0).trans rfl, (kC BK377.out 1).trans rfl, ((HB.out.cell (wL w _ hw393_0)).trans hw393_0), hx394_0⟩ (fun hHeld => ?_); refine with_tabW spec_l9Cover.tab10 spec_l9Cover.bits10 (fun HT_ HW_ => ?_)
              generalize w34.drew = w35 at HO_9 HO_386001 HO392 BK377 BK378 BK385 HB hx393_0 hx394_0 hHeld ⊢
              refine zP 0 (some 44) #[true,false,false,false,false,false,false,false,false,false,false,false,false,false,false,false,false,false] ?_
              refine zP 2 (some 46) #[true,false,true,false,false,false,false,false,false,false,false,false,false,false,false,false,false,false] ?_
              refine zP 3 (some 47) #[true,false,true,true,false,false,false,false,false,false,false,false,false,false,false,false,false,false] ?_
              refine zP 5 (some 49) #[true,false,true,true,false,true,false,false,false,false,false,false,false,false,false,false,false,false] ?_
              refine zP 9 (some 53) #[true,false,true,true,false,true,false,false,false,true,false,false,false,false,false,false,false,false] ?_
              refine zP 10 (some 54) #[true,false,true,true,false,true,false,false,false,true,true,false,false,false,false,false,false,false] ?_
              refine zP 11 (some 55) #[true,false,true,true,false,true,false,false,false,true,true,true,false,false,false,false,false,false] ?_
              refine take_ (i := 1) (N := some 45) (v := ?_) (a' := ?_) #[true, true, true, true, false, true, false, false, false, true, true, true, false, false, false, false, false, false] rfl rfl (take_ofW HT_.out HW_.out (by kernel_rfl)) (fun _ _ _ h => h) (Or.inl ⟨by rfl, ?_⟩) hHeld ?_ ?_
              rotate_left
              ·rintro w' ⟨s0, s1, s2, s3, s4, s5⟩
               go_simp
               with_reducible rfl
              rotate_left
              ·simp only [Act.put, List.setIfInBounds_toArray, List.set_cons_zero, List.set_cons_succ, i64_w, i32_w]
               rfl
              refine take_ (i := 4) (N := some 48) (v := ?_) (a' := ?_) #[true, true, true, true, true, true, false, false, false, true, true, true, false, false, false, false, false, false] rfl rfl (take_ofW HT_.out HW_.out (by kernel_rfl)) (fun _ _ _ h => h) (Or.inl ⟨by rfl, ?_⟩) hHeld ?_ ?_
              rotate_left
              ·rintro w' ⟨s0, s1, s2, s3, s4, s5⟩
               go_simp
               with_reducible rfl
              rotate_left
              ·simp only [Act.put, List.setIfInBounds_toArray, List.set_cons_zero, List.set_cons_succ, i64_w, i32_w]
               rfl
              refine zP 6 (some 50) #[true,true,true,true,true,true,true,false,false,true,true,true,false,false,false,false,false,false] ?_
              refine take_ (i := 7) (N := some 51) (v := ?_) (a' := ?_) #[true, true, true, true, true, true, true, true, false, true, true, true, false, false, false, false, false, false] rfl rfl (take_ofW HT_.out HW_.out (by kernel_rfl)) (fun _ _ _ h => h) (Or.inl ⟨by rfl, ?_⟩) hHeld ?_ ?_
              rotate_left
              ·rintro w' ⟨s0, s1, s2, s3, s4, s5⟩
               go_simp
               with_reducible rfl
              rotate_left
              ·simp only [Act.put, List.setIfInBounds_toArray, List.set_cons_zero, List.set_cons_succ, i64_w, i32_w]
               rfl
              refine zP 8 (some 52) #[true,true,true,true,true,true,true,true,true,true,true,true,false,false,false,false,false,false] ?_
              refine take_ (i := 12) (N := some 56) (v := ?_) (a' := ?_) #[true, true, true, true, true, true, true, true, true, true, true, true, true, false, false, false, false, false] rfl rfl (take_ofW HT_.out HW_.out (by kernel_rfl)) (fun _ _ _ h => h) (Or.inl ⟨by rfl, ?_⟩) hHeld ?_ ?_
              rotate_left
              ·rintro w' ⟨s0, s1, s2, s3, s4, s5⟩
               go_simp
               with_reducible rfl
              rotate_left
              ·simp only [Act.put, List.setIfInBounds_toArray, List.set_cons_zero, List.set_cons_succ, i64_w, i32_w]
               rfl
              refine zP 13 (some 57) #[true,true,true,true,true,true,true,true,true,true,true,true,true,true,false,false,false,false] ?_
              refine one_ (i := 14) (N := some 58) #[true, true, true, true, true, true, true, true, true, true, true, true, true, true, true, false, false, false] rfl rfl (one_of HT_.out (by kernel_rfl)) (by decide) (fun K hK => ?_)
              refine value_ (w1 := ?_) (v := ?_) (by rfl) rfl ?_ ?_
              rotate_left 2
              ·go_simp
               constructor
               ·rfl
               rfl
              refine hK.out _ _ ⟨(kC (kA BK385.out _) 0).trans rfl, (kC (kA BK385.out _) 1).trans rfl, (kC (kA BK377.out _) 0).trans rfl, (kC (kA BK377.out _) 1).trans rfl, (World.cell?_alloc_lt _ _ _ (wL _ _ (((HB.out.cell (wL w _ hw393_0)).trans hw393_0)))).trans (((HB.out.cell (wL w _ hw393_0)).trans hw393_0)), (World.cell?_alloc_lt _ _ _ (wL _ _ (hHeld.2.2.2.2.2))).trans (hHeld.2.2.2.2.2)⟩ (fun hHeld => ?_)
              clear hK K
              refine norm_ (a' := ?_) ?_ ?_
              rotate_left
              ·show Act.put _ (some 58) _ = _
               simp only [Act.put, List.setIfInBounds_toArray, List.set_cons_zero, List.set_cons_succ, i64_w, i32_w]
               rfl
              refine last_ (i := 15) (N := some 59) #[true, true, true, true, true, true, true, true, true, true, true, true, true, true, true, true, false, false] rfl rfl (one_of HT_.out (by kernel_rfl)) (by decide) (fun K hK => ?_)
              refine Kd.R_append_step (Kd.int .i64) (w0 := w) w.heap.size (by rfl) (.tmp 45) (.tmp 58) 23 3 (.int .i64 0) 8 rfl Try.underlying23 info3 rfl (by decide) (by omega) u386001 x386001_2 (wrap64 ((wrap64 (a1 * (rd l0_1 x8_1))) + (rd t386 x10_2))) [.int .i64 (wrap64 ((wrap64 (a1 * (rd l0_1 x8_1))) + (rd t386 x10_2)))] (fun k_ => some k_ ≠ (.slice Ao32 y390.length co32 : Value).ownBlock) (fun _ => False) rfl rfl ?aP (fun _ hk => hk.elim) ?aF ?aO ?aB ?aS ?aL ?_
              (case aP => exact rfl)
              (case aB => exact (zB_ HB))
              (case aF => exact (fun k_ hk => Kd.fresh' (rX (zR_ HO392)) k_ hk))
              (case aO => exact (zR_ HO_386001))
              (case aS => exact (bZ (zB_ HB)))
              (case aL => have := LMc29.out; omega)
              intro v396 w37 ho hb hg hat
              rw [← Ny395.out] at ho
              replace HO_9 := A0_ (Kd.V_afterv (ok := (fun k_ => some k_ ≠ (.slice Ao32 y390.length co32 : Value).ownBlock ∧ k_ ≠ gb377 ∧ k_ ≠ gb378 ∧ k_ ≠ gb385)) (by (with_reducible repeat (first | apply Kd.V_alloc | apply Kd.V_drewN | apply Kd.V_drew)); exact Kd.V_mono HO_9.out (fun _ hk => ⟨⟨hk.2.1, ⟨hk.2.2.1, ⟨hk.2.2.2.1, hk.2.2.2.2⟩⟩⟩, hk.1⟩)) hg hat)
              replace BK377 := A0_ (blk_grown (g := gb377) (o := .cells #[.slice (some ad389) l0_0.length c0_0, .slice (some ad393) l0_1.length c0_1] 25 (0, 0)) (zK_ BK377) hg (Kd.R_ne HO_386001.out BK377.out (by decide)))
              replace BK378 := A0_ (blk_grown (g := gb378) (o := .cells #[.slice none 0 0, .slice none 0 0] 25 (0, 0)) (zK_ BK378) hg (Kd.R_ne HO_386001.out BK378.out (by decide)))
              replace BK385 := A0_ (blk_grown (g := gb385) (o := .cells #[.slice Ao32 y390.length co32, u386001] 25 (0, 0)) (zK_ BK385) hg (Kd.R_ne HO_386001.out BK385.out (by decide)))
              replace HO392 := A0_ (Kd.R_after (ok := (fun _ => True)) (zmR HO392 (fun _ hk => ⟨trivial, hk⟩)) hg hat)
              replace HB := A0_ (hb)
              have HO397 := A0_ (ho)
              clear HO_386001 ho hb hg hat; obtain ⟨Ao38, co38, eo38⟩ := rS HO397.out
              (first | subst eo38 | (injection eo38 with f1_ f2_ f3_; have f4_ := f1_.symm; have f5_ := f3_.symm; clear f1_ f2_ f3_; subst f4_; subst f5_))
              refine hK.out _ _ ?_
              clear hK K
              refine norm_ (a' := ?_) ?_ ?_
              rotate_left
              ·show Act.put _ (some 59) _ = _
               simp only [Act.put, List.setIfInBounds_toArray, List.set_cons_zero, List.set_cons_succ, i64_w, i32_w]
               rfl
              refine zP 16 (some 60) #[true,true,true,true,true,true,true,true,true,true,true,true,true,true,true,true,true,false] ?_
              refine last_ (i := 17) (N := none) #[true, true, true, true, true, true, true, true, true, true, true, true, true, true, true, true, true, true] rfl rfl (one_of HT_.out (by kernel_rfl)) (by decide) (fun K hK => ?_)
              have hs39 : w37.cell? ⟨gb385, 1, none⟩ = some (u386001) := (kC BK385.out 1).trans rfl
              have hfs39 := kF BK385.out 1; have hns39_0 := NB377_385.out; have hns39_1 := NB378_385.out; have hms39_0 := NB385_377.out; have hms39_1 := NB385_378.out
              refine skip_ (w1 := ?_) (by rfl) rfl ?_ ?_
              rotate_left
              ·go_simp
               rfl
              refine hK.out _ _ ?_
              clear hK K
              refine done_ (done_of HT_.out (by kernel_rfl)) ?_
              try go_wp2
              go_roundg k2
              case measure => have := HK1.out; have := HK2.out; omega
              case rel => exact ⟨(wrap64 (x10_2 + 1)), (y390), (y395), (.slice Ao32 y390.length co32), (.slice Ao38 y395.length co38), zt, H', ⟨by have := HK1.out; have := HK2.out; omega⟩, ⟨by (with_reducible repeat (first | apply Kd.V_alloc | apply Kd.V_drewN | apply Kd.V_drew)); exact Kd.V_mono (Kd.V_far (p := ⟨gb385, 1, none⟩) (Kd.V_mono HO_9.out (fun k_ hk => (⟨hk, hk.1.2.2.2⟩ : _ ∧ k_ ≠ gb385))) (fun _ hk => hk.2) (.slice Ao38 y395.length co38)) (fun _ hk => ⟨hk.1.1.1, ⟨hk.1.2, ⟨hk.1.1.2.1, ⟨hk.1.1.2.2.1, hk.1.1.2.2.2⟩⟩⟩⟩)⟩, ⟨by (with_reducible repeat (first | apply rA | apply rN | apply rD)); exact rM (rF (p := ⟨gb385, 1, none⟩) (rY HO392.out BK385.out (by decide)) (fun _ hk => hk.2) (.slice Ao38 y395.length co38)) (fun _ hk => hk.1.2)⟩, ⟨by (with_reducible repeat (first | apply rA | apply rN | apply rD)); exact rM (rF (p := ⟨gb385, 1, none⟩) (rY HO397.out BK385.out (by decide)) (fun _ hk => hk.2) (.slice Ao38 y395.length co38)) (fun _ hk => hk.1)⟩, ⟨by (with_reducible repeat (first | refine kN ?_ _ | refine kD ?_ | refine kA ?_ _)); refine blk_far ?_ NB377_385.out _; (with_reducible repeat (first | refine kN ?_ _ | refine kD ?_ | refine kA ?_ _)); exact BK377.out⟩, ⟨by (with_reducible repeat (first | refine kN ?_ _ | refine kD ?_ | refine kA ?_ _)); refine blk_far ?_ NB378_385.out _; (with_reducible repeat (first | refine kN ?_ _ | refine kD ?_ | refine kA ?_ _)); exact BK378.out⟩, ⟨by (with_reducible repeat (first | refine kN ?_ _ | refine kD ?_ | refine kA ?_ _)); refine blk_put (cs := #[.slice Ao32 y390.length co32, u386001]) ?_ 1 _ rfl; (with_reducible repeat (first | refine kN ?_ _ | refine kD ?_ | refine kA ?_ _)); exact BK385.out⟩, ⟨zB_ HB⟩⟩
             rw [if_neg c29] at H
             exact absurd H (by simp)
            rw [if_neg c28] at H
            exact absurd H (by simp)
           rw [if_neg c27] at H
           exact absurd H (by simp)
          rw [if_neg c26] at H
          exact absurd H (by simp)
         rw [if_neg c25] at H
         exact absurd H (by simp)
        rw [if_neg c24] at H
        exact absurd H (by simp)
       rw [if_neg c23] at H
       exact absurd H (by simp)
      rw [if_neg c22] at H; have c22b0 := dF c22; clear c22; have H' := A0_ H; clear H
      go_wp2
      go_roundg k2
      case measure => have := HK1.out; have := HK2.out; omega
      case rel => exact ⟨(wrap64 (x8_1 + 1)), (x386000_2), (x386001_2), (u386000), (u386001), zt, H', ⟨by have := HK1.out; have := HK2.out; omega⟩, ⟨zR_ HO_386000⟩, ⟨zR_ HO_386001⟩, ⟨zK_ BK377⟩, ⟨zK_ BK378⟩, ⟨zK_ BK385⟩, ⟨zB_ HB⟩⟩
   rw [if_neg c16] at H; have c16b0 := dF c16; clear c16; simp only [Option.some.injEq, Prod.mk.injEq] at H; obtain ⟨rfl, rfl⟩ := H; have hnb40 := NB377_378.out; have hnc40 := NB378_377.out; have hnb41 := NB377_385.out; have hnc41 := NB385_377.out; have hcz42_0 := zc0 BK377; have hcz42_1 := zc1 BK377; have hfz42_0 := kF BK377.out 0; have hfz42_1 := kF BK377.out 1; have hnb43 := NB385_378.out; have hnc43 := NB378_385.out; have hcz44_0 := zc0 BK385; have hcz44_1 := zc1 BK385; have hfz44_0 := kF BK385.out 0; have hfz44_1 := kF BK385.out 1; obtain ⟨Ao45, co45, eo45⟩ := rS HO_386000.out; subst eo45; have hcz46_0 := zc0 BK378; have hcz46_1 := zc1 BK378; have hfz46_0 := kF BK378.out 0; have hfz46_1 := kF BK378.out 1; obtain ⟨Ao47, co47, eo47⟩ := rS HO_386001.out; subst eo47
   go_wp2
   refine bodyPost_ret (results_cell_row rfl _ _ gb378 25 #[.slice Ao45 x386000_1.length co45, .slice Ao47 x386001_1.length co47] (0, 0) _ rfl (by (with_reducible repeat (first | refine kN ?_ _ | refine kD ?_ | refine kA ?_ _)); refine blk_put (cs := #[.slice Ao45 x386000_1.length co45, .slice none 0 0]) ?_ 1 _ rfl; (with_reducible repeat (first | refine kN ?_ _ | refine kD ?_ | refine kA ?_ _)); refine blk_put (cs := #[.slice none 0 0, .slice none 0 0]) ?_ 0 _ rfl; (with_reducible repeat (first | refine kN ?_ _ | refine kD ?_ | refine kA ?_ _)); exact BK378.out) Try.underlying25 rfl (by kernel_rfl)) rfl ?_
   exact ⟨_, _, by first | rfl | (simp [*] <;> rfl), zF HO_386000 BK378 (.slice Ao45 x386000_1.length co45) (.slice Ao47 x386001_1.length co47) 0 1, zF HO_386001 BK378 (.slice Ao45 x386000_1.length co45) (.slice Ao47 x386001_1.length co47) 0 1, zB_ HB⟩

/-! ### spec_CoverWhole: function 13 -/
def spec_CoverWhole.f (k : Nat) (l0_0 : List Int) (l0_1 : List Int) (a1 : Int) (l2 : List (List Int)) : Option (Bool) := (spec_VoltageValid.f k l0_0 l0_1 a1 l2).bind fun t399 => (if t399 = true then ((spec_l9Cover.f k l0_0 l0_1 a1 l2).bind fun bt400 => ((spec_MapValid.f k bt400.1 bt400.2).bind fun t406 => (some t406))) else (some false))
set_option maxHeartbeats 8000000 in
set_option maxRecDepth 100000 in
theorem spec_CoverWhole.calls (k : Nat) (A0_0 : Option Addr) (c0_0 : Nat) (l0_0 : List Int) (A0_1 : Option Addr) (c0_1 : Nat) (l0_1 : List Int) (a1 : Int) (A2 : Option Addr) (c2 : Nat) (l2 : List (List Int)) (r : Bool) (w : World) (hr0_0 : Kd.C (Kd.int .i64) w A0_0 l0_0.length l0_0) (hc0_0 : l0_0.length ≤ c0_0) (hr0_1 : Kd.C (Kd.int .i64) w A0_1 l0_1.length l0_1) (hc0_1 : l0_1.length ≤ c0_1) (hr2 : Kd.C (Kd.slice 3 (Kd.int .i64)) w A2 l2.length l2) (hc2 : l2.length ≤ c2) (h : spec_CoverWhole.f k l0_0 l0_1 a1 l2 = some r) :
    Calls Try.prog 13 #[.agg #[.slice A0_0 l0_0.length c0_0, .slice A0_1 l0_1.length c0_1], .int .i64 a1, .slice A2 l2.length c2] w fun e w' => e = .returned (.bool r) ∧ Below w.heap.size w w' := by
 have hu25 := Try.underlying25; have HR0_0 := A0_ hr0_0; have HC0_0 := A0_ hc0_0; clear hr0_0 hc0_0; have HR0_1 := A0_ hr0_1; have HC0_1 := A0_ hc0_1; clear hr0_1 hc0_1; have HR2 := A0_ hr2; have HC2 := A0_ hc2; clear hr2 hc2
 have HB := A0_ (Below.refl w.heap.size w)
 have H : ((spec_VoltageValid.f k l0_0 l0_1 a1 l2).bind fun t399 => (if t399 = true then ((spec_l9Cover.f k l0_0 l0_1 a1 l2).bind fun bt400 => ((spec_MapValid.f k bt400.1 bt400.2).bind fun t406 => (some t406))) else (some false))) = some r := h
 clear h; obtain ⟨t399, A4, H⟩ := zbind H
 by_cases c5 : t399 = true
 ·subst c5
  rw [if_pos rfl] at H; obtain ⟨⟨t400, t403⟩, A6, H⟩ := zbind H; dsimp only at H; obtain ⟨t406, A7, H⟩ := zbind H; obtain rfl := sI H
  go_enter Try.func13, Try.ntmps13
  go_wp2_with (first | ((with_reducible refine gD (N := 3) rfl ?_); refine zX (N := 3) (cs := #[.slice A0_0 l0_0.length c0_0, .slice A0_1 l0_1.length c0_1]) (t := 25) ?_; intro gb398 hg w8 hbox hb; have BK398 := A0_ (hbox); have GW398 := zG hg HB; have GE398 := zG hg HB; replace HB := zB HB hb; clear hb hbox hg; have hcz9_0 := zc0 BK398; have hcz9_1 := zc1 BK398; have hfz9_0 := kF BK398.out 0; have hfz9_1 := kF BK398.out 1) | ((with_reducible refine gC (f := 56) rfl ?_); refine zJ (some 10) Try.func56 #[.agg #[.slice A0_0 l0_0.length c0_0, .slice A0_1 l0_1.length c0_1], .int .i64 a1, .slice A2 l2.length c2] ?_; (with_reducible refine (spec_VoltageValid.calls k _ _ l0_0 _ _ l0_1 a1 _ _ l2 true _ ?side1 ?side2 ?side3 ?side4 ?side5 ?side6 A4.out).mono ?_); (case side1 => exact zC HR0_0 HB); (case side2 => exact HC0_0.out); (case side3 => exact zC HR0_1 HB); (case side4 => exact HC0_1.out); (case side5 => exact zC HR2 HB); (case side6 => exact HC2.out); rintro e w10 ⟨rfl, hb⟩; refine ⟨_, rfl, ?_⟩; replace BK398 := zK BK398 hb; replace HB := zB HB hb; (try clear hb); have hcz11_0 := zc0 BK398; have hcz11_1 := zc1 BK398; have hfz11_0 := kF BK398.out 0; have hfz11_1 := kF BK398.out 1) | (go_at_call 58; (with_reducible refine (spec_l9Cover.calls k _ _ l0_0 _ _ l0_1 a1 _ _ l2 t400 t403 _ ?side1 ?side2 ?side3 ?side4 ?side5 ?side6 A6.out).mono ?_); (case side1 => exact zC HR0_0 HB); (case side2 => exact HC0_0.out); (case side3 => exact zC HR0_1 HB); (case side4 => exact HC0_1.out); (case side5 => exact zC HR2 HB); (case side6 => exact HC2.out); rintro e w12 ⟨v401, v404, rfl, ho0, ho1, hb⟩; have HO402 := A0_ (rL ho0 (bZ (zB_ HB))); have HO405 := A0_ (rL ho1 (bZ (zB_ HB))); replace BK398 := zK BK398 hb; replace HB := zB HB hb; (try clear hb); (try clear ho0); (try clear ho1); obtain ⟨Ao13, co13, eo13⟩ := rS HO402.out; subst eo13; obtain ⟨Ao14, co14, eo14⟩ := rS HO405.out; subst eo14) | (go_at_call 57; (with_reducible refine (spec_MapValid.calls k _ _ t400 _ _ t403 t406 _ ?side1 ?side2 ?side3 ?side4 A7.out).mono ?_); (case side1 => exact zD HO402); (case side2 => exact (rR HO402.out).2.1); (case side3 => exact zD HO405); (case side4 => exact (rR HO405.out).2.1); rintro e w15 ⟨rfl, hb⟩; replace HO402 := zR HO402 hb; replace HO405 := zR HO405 hb; replace BK398 := zK BK398 hb; replace HB := zB HB hb; (try clear hb)))
  go_ret
  exact ⟨by first | rfl | (simp [*] <;> rfl), zB_ HB⟩
 replace c5 := Bool.eq_false_iff.mpr c5; subst c5
 rw [if_neg (show ¬ (false = true) by decide)] at H
 obtain rfl := sI H
 go_enter Try.func13, Try.ntmps13
 go_wp2_with (first | ((with_reducible refine gD (N := 3) rfl ?_); refine zX (N := 3) (cs := #[.slice A0_0 l0_0.length c0_0, .slice A0_1 l0_1.length c0_1]) (t := 25) ?_; intro gb398 hg w16 hbox hb; have BK398 := A0_ (hbox); have GW398 := zG hg HB; have GE398 := zG hg HB; replace HB := zB HB hb; clear hb hbox hg; have hcz17_0 := zc0 BK398; have hcz17_1 := zc1 BK398; have hfz17_0 := kF BK398.out 0; have hfz17_1 := kF BK398.out 1) | ((with_reducible refine gC (f := 56) rfl ?_); refine zJ (some 10) Try.func56 #[.agg #[.slice A0_0 l0_0.length c0_0, .slice A0_1 l0_1.length c0_1], .int .i64 a1, .slice A2 l2.length c2] ?_; (with_reducible refine (spec_VoltageValid.calls k _ _ l0_0 _ _ l0_1 a1 _ _ l2 false _ ?side1 ?side2 ?side3 ?side4 ?side5 ?side6 A4.out).mono ?_); (case side1 => exact zC HR0_0 HB); (case side2 => exact HC0_0.out); (case side3 => exact zC HR0_1 HB); (case side4 => exact HC0_1.out); (case side5 => exact zC HR2 HB); (case side6 => exact HC2.out); rintro e w18 ⟨rfl, hb⟩; refine ⟨_, rfl, ?_⟩; replace BK398 := zK BK398 hb; replace HB := zB HB hb; (try clear hb)))
 go_ret
 exact ⟨by first | rfl | (simp [*] <;> rfl), zB_ HB⟩

end Go.Proofs.Ytmegggomhjgehaa.PFnCoverWhole
