-- Made by a program of this session (wip/tools) out of the loaded program; not trusted: Lean checks it.
import Derived.Test.YtmegggomhjgehaaPFnDeckx0
import Derived.Test.YtmegggomhjgehaaPFnDeckx5
import Derived.Test.YtmegggomhjgehaaPFnDeckx7
import Derived.Test.YtmegggomhjgehaaPFnDeckx8
-- packed
namespace Go.Proofs.Ytmegggomhjgehaa.PFnDeck
open Go.RowKit Go.Proofs.YtmegggomhjgehaaW.PrintWords Go.Proofs.YtmegggomhjgehaaW.PrintLast Go.Proofs.YtmegggomhjgehaaW.PrintMore
attribute [local go_sem] max2_int min2_int max_two min_two max_three min_three max_four min_four   -- for this text's walks alone
set_option linter.unusedVariables false
set_option linter.unusedSimpArgs false

/-! ### spec_l6Open: function 52 -/
def spec_l6Open.f (l0 : List Int) : Option (List Int × Int) := if (l0.length : Int) > 2000 then (if 2000 ≤ (l0.length : Int) then (some (l0.take 2000, 0)) else (none)) else (some (l0, 0))
set_option maxHeartbeats 8000000 in
set_option maxRecDepth 100000 in
theorem spec_l6Open.calls (A0 : Option Addr) (c0 : Nat) (l0 : List Int) (r1 : List Int) (r2 : Int) (w0 w : World) (hB : Below w0.heap.size w0 w) (hr0 : Kd.C (Kd.int .u8) w0 A0 l0.length l0) (hc0 : l0.length ≤ c0) (h : spec_l6Open.f l0 = some (r1, r2)) :
    Calls Try.prog 52 #[.slice A0 l0.length c0] w fun e w' => ∃ g_ : Nat, e = .returned (.pointer (some ⟨g_, 0, none⟩)) ∧ IsS82 w0 w' g_ r1 r2 ∧ Below w0.heap.size w0 w' ∧ Below w.heap.size w w' := by
 have hu82 := Try.underlying82; have HR0 := A0_ hr0; have HC0 := A0_ hc0; clear hr0 hc0
 have HBW := A0_ (Below.refl w.heap.size w)
 have HW0 := A0_ hB.size; have HB := A0_ hB; clear hB
 have H : (if (l0.length : Int) > 2000 then (if 2000 ≤ (l0.length : Int) then (some (l0.take 2000, 0)) else (none)) else (some (l0, 0))) = some (r1, r2) := h
 clear h
 by_cases c2 : (l0.length : Int) > 2000
 ·rw [if_pos c2] at H
  have c2b0 : decide (2000 < (l0.length : Int)) = true := dT c2
  have c2b1 : decide (2000 < l0.length) = true := dT (by omega)
  clear c2
  by_cases c3 : 2000 ≤ (l0.length : Int)
  ·rw [if_pos c3] at H
   have c3b0 := eq_true c3; have c3b1 := dT c3; clear c3; simp only [Option.some.injEq, Prod.mk.injEq] at H; obtain ⟨rfl, rfl⟩ := H; obtain ⟨i04, hi04, _, hsz4, _⟩ := info_parts info5
   obtain ⟨hcut4, hA4, hC4⟩ := print_take_of (P := Try.prog) (Value.int .u8) 0 22 5 .i64 Try.underlying22 hi04 hsz4 A0 c0 l0 2000 (by omega) (zd) HC0.out
   have HR342 := A0_ (Kd.C_of_reads (h1 := fun _ => rfl) (hA4 _ (Kd.reads_of_C HR0.out)))
   have HC342 := A0_ hC4; clear hA4 hC4 hi04 hsz4
   go_enter Try.func52, Try.ntmps52
   go_wp2_with (first | ((with_reducible refine gD (N := 10) rfl ?_); refine zX (N := 10) (cs := #[.slice A0 (l0.take 2000).length c0, .int .i64 0]) (t := 82) ?_; intro gb343 hg w5 hbox hb; replace HB := zB HB hb; have BK343 := A0_ (hbox); have GW343 := A0_ ((by rw [hg]; exact (bZ (by repeat (first | (with_reducible first | exact HBW.out | apply bA | apply bN | apply bD) | exact HBW.out))) : w.heap.size ≤ gb343)); have GE343 := A0_ ((Nat.le_trans HW0.out (by rw [hg]; exact (bZ (by repeat (first | (with_reducible first | exact HBW.out | apply bA | apply bN | apply bD) | exact HBW.out))) : w.heap.size ≤ gb343) : w0.heap.size ≤ gb343)); replace HBW := A0_ (bT HBW.out hb); clear hb hbox hg))
   go_ret
   exact ⟨_, rfl, (show IsS82 w0 _ gb343 (l0.take 2000) 0 from ⟨_, _, zK_ BK343, GE343.out, HR342.out⟩), zB_ HB, by repeat (first | (with_reducible first | exact HBW.out | apply bA | apply bN | apply bD | refine bS ?_ GW343.out) | exact HBW.out)⟩
  rw [if_neg c3] at H
  exact absurd H (by simp)
 rw [if_neg c2] at H
 have c2b0 : decide (2000 < (l0.length : Int)) = false := dF c2
 have c2b1 : decide (2000 < l0.length) = false := dF (by omega)
 clear c2; simp only [Option.some.injEq, Prod.mk.injEq] at H; obtain ⟨rfl, rfl⟩ := H
 go_enter Try.func52, Try.ntmps52
 go_wp2_with (first | ((with_reducible refine gD (N := 10) rfl ?_); refine zX (N := 10) (cs := #[.slice A0 l0.length c0, .int .i64 0]) (t := 82) ?_; intro gb344 hg w6 hbox hb; replace HB := zB HB hb; have BK344 := A0_ (hbox); have GW344 := A0_ ((by rw [hg]; exact (bZ (by repeat (first | (with_reducible first | exact HBW.out | apply bA | apply bN | apply bD) | exact HBW.out))) : w.heap.size ≤ gb344)); have GE344 := A0_ ((Nat.le_trans HW0.out (by rw [hg]; exact (bZ (by repeat (first | (with_reducible first | exact HBW.out | apply bA | apply bN | apply bD) | exact HBW.out))) : w.heap.size ≤ gb344) : w0.heap.size ≤ gb344)); replace HBW := A0_ (bT HBW.out hb); clear hb hbox hg))
 go_ret
 exact ⟨_, rfl, (show IsS82 w0 _ gb344 l0 0 from ⟨_, _, zK_ BK344, GE344.out, HR0.out⟩), zB_ HB, by repeat (first | (with_reducible first | exact HBW.out | apply bA | apply bN | apply bD | refine bS ?_ GW344.out) | exact HBW.out)⟩

/-! ### spec_DrawCoverDeck: function 26 -/
def spec_DrawCoverDeck.l0 : Nat → List (List Int) → Int → List Int → Int → List Int → List Int → Option (List Int × List Int × Int × (List (List Int)))
  | 0, _, _, _, _, _, _ => none
  | k + 1, x7, x8, x349000, x349001, x359000, x359001 => if x8 < (wrap64 ((x359001.length : Int) / 2)) then ((some (([(([1, 2, 0] : List Int)), (([2, 0, 1] : List Int)), (([0, 1, 2] : List Int))] : List (List Int)) : List (List Int))).bind fun y371 => ((spec_l6Rd_pick.f k x349000 x349001 3).bind fun bt374 => (if 0 ≤ bt374.1 then (if bt374.1 < (y371.length : Int) then (if x7.length < 5864062014805 then (spec_DrawCoverDeck.l0 k (x7 ++ [rd_L1 y371 bt374.1]) (wrap64 (x8 + 1)) x349000 bt374.2 x359000 x359001) else (none)) else (none)) else (none)))) else (some (x359000, x359001, 3, x7))
def spec_DrawCoverDeck.f (k : Nat) (l0 : List Int) : Option (List Int × List Int × Int × (List (List Int))) := (spec_l6Open.f l0).bind fun bt346 => ((spec_l6Rd_pick.f k bt346.1 bt346.2 3).bind fun bt349 => (if bt349.1 = 0 then ((spec_l91Map.f k bt346.1 bt349.2 2).bind fun bt351 => (spec_DrawCoverDeck.l0 k (([] : List (List Int))) 0 bt346.1 bt351.2.2 bt351.1 bt351.2.1)) else ((spec_l92Cover.f k bt346.1 bt349.2).bind fun bt380 => (some (bt380.1, bt380.2.1, bt380.2.2.1, bt380.2.2.2.1)))))
set_option maxHeartbeats 8000000 in
set_option maxRecDepth 100000 in
theorem spec_DrawCoverDeck.calls (k : Nat) (A0 : Option Addr) (c0 : Nat) (l0 : List Int) (r1 : List Int) (r2 : List Int) (r3 : Int) (r4 : List (List Int)) (w : World) (hr0 : Kd.C (Kd.int .u8) w A0 l0.length l0) (hc0 : l0.length ≤ c0) (h : spec_DrawCoverDeck.f k l0 = some (r1, r2, r3, r4)) :
    Calls Try.prog 26 #[.slice A0 l0.length c0] w fun e w' => ∃ v0_ v1_ v3_ : Value, e = .returned (.tuple #[.agg #[v0_, v1_], .int .i64 r3, v3_]) ∧ Kd.Q (Kd.int .i64) 3 w' w.heap.size (fun k_ => (w.heap.size ≤ k_) ∧ some k_ ≠ (v1_ : Value).ownBlock) v0_ r1 ∧ Kd.R (Kd.int .i64) 3 w' w.heap.size (fun k_ => (w.heap.size ≤ k_) ∧ some k_ ≠ (v0_ : Value).ownBlock) v1_ r2 ∧ Kd.N (Kd.slice 3 (Kd.int .i64)) 23 w' w.heap.size (fun k_ => (w.heap.size ≤ k_) ∧ some k_ ≠ (v0_ : Value).ownBlock ∧ some k_ ≠ (v1_ : Value).ownBlock) v3_ r4 ∧ Below w.heap.size w w' := by
 have hu25 := Try.underlying25; have HR0 := A0_ hr0; have HC0 := A0_ hc0; clear hr0 hc0
 have HB := A0_ (Below.refl w.heap.size w)
 have H : ((spec_l6Open.f l0).bind fun bt346 => ((spec_l6Rd_pick.f k bt346.1 bt346.2 3).bind fun bt349 => (if bt349.1 = 0 then ((spec_l91Map.f k bt346.1 bt349.2 2).bind fun bt351 => (spec_DrawCoverDeck.l0 k (([] : List (List Int))) 0 bt346.1 bt351.2.2 bt351.1 bt351.2.1)) else ((spec_l92Cover.f k bt346.1 bt349.2).bind fun bt380 => (some (bt380.1, bt380.2.1, bt380.2.2.1, bt380.2.2.2.1)))))) = some (r1, r2, r3, r4) := h
 clear h; obtain ⟨⟨t346, t347⟩, A2, H⟩ := zbind H; dsimp only at H; obtain ⟨⟨t349, t350⟩, A3, H⟩ := zbind H; dsimp only at H
 by_cases c4 : t349 = 0
 ·rw [if_pos c4] at H
  have c4b0 : (t349 == 0) = true := beq_iff_eq.mpr c4
  have c4b1 : (t349 != 0) = false := bne_eq_false_iff_eq.mpr c4
  clear c4; obtain ⟨⟨t351, t354, t357⟩, A5, H⟩ := zbind H; dsimp only at H
  obtain ⟨y359, hy359⟩ : ∃ y_ : List (List Int), y_ = (([] : List (List Int))) := ⟨_, rfl⟩
  replace H : (spec_DrawCoverDeck.l0 k y359 0 t346 t357 t351 t354) = some (r1, r2, r3, r4) := zH hy359 H
  have Ny359 := A0_ hy359; clear hy359; have H' := A0_ H; clear H
  go_enter Try.func26, Try.ntmps26
  go_wp2_with (first | ((with_reducible refine gD (N := 2) rfl ?_); refine zX (N := 2) (cs := #[.slice none 0 0, .slice none 0 0]) (t := 25) ?_; intro gb345 hg w6 hbox hb; have BK345 := A0_ (hbox); have GW345 := zG hg HB; have GE345 := zG hg HB; replace HB := zB HB hb; clear hb hbox hg) | ((with_reducible refine gC (f := 52) rfl ?_); refine zJ (some 10) Try.func52 #[.slice A0 l0.length c0] ?_; (with_reducible refine (spec_l6Open.calls _ _ l0 t346 t347 w _ ?side1 ?side2 ?side3 A2.out).mono ?_); (case side1 => repeat (first | (with_reducible first | exact HB.out | apply bA | apply bN | apply bD | refine bS ?_ GE345.out) | exact HB.out)); (case side2 => exact HR0.out); (case side3 => exact HC0.out); rintro e w7 ⟨g348, rfl, hi, hb, hb2⟩; refine ⟨_, rfl, ?_⟩; replace HB := A0_ (hb); have HI348 := A0_ (hi); have NB348_345 := A0_ (IsS82.ne_blk hi (kB (g := gb345) (o := .cells #[.slice none 0 0, .slice none 0 0] 25 (0, 0)) (zK_ BK345) hb2) (by decide)); have NB345_348 := A0_ (Ne.symm (IsS82.ne_blk hi (kB (g := gb345) (o := .cells #[.slice none 0 0, .slice none 0 0] 25 (0, 0)) (zK_ BK345) hb2) (by decide))); replace BK345 := A0_ (kB (g := gb345) (o := .cells #[.slice none 0 0, .slice none 0 0] 25 (0, 0)) (zK_ BK345) hb2); (try clear hb)) | ((with_reducible refine gC (f := 74) rfl ?_); refine zJ (some 12) Try.func74 #[.pointer (some ⟨g348, 0, none⟩), .int .i64 3] ?_; (with_reducible refine (spec_l6Rd_pick.calls k g348 t346 t347 3 t349 t350 w _ ?side1 ?side2 A3.out).mono ?_); (case side1 => repeat (first | (with_reducible first | exact HI348.out | apply IsS82.alloc | apply IsS82.drewN | apply IsS82.drew | apply IsS82.set_1 | refine IsS82.far ?_ NB348_345.out _) | exact HI348.out)); (case side2 => repeat (first | (with_reducible first | exact HB.out | apply bA | apply bN | apply bD | refine bS ?_ (IsS82.ge HI348.out) | refine bS ?_ GE345.out) | exact HB.out)); rintro e w8 ⟨rfl, hi, hb, hk⟩; refine ⟨_, rfl, ?_⟩; replace BK345 := A0_ (KeepBut.blk hk (g' := gb345) (o := .cells #[.slice none 0 0, .slice none 0 0] 25 (0, 0)) (zK_ BK345) NB345_348.out (by simp)); replace HB := A0_ (hb); replace HI348 := A0_ (hi); (try clear hb)) | ((with_reducible refine gC (f := 75) rfl ?_); refine zJ (some 15) Try.func75 #[.pointer (some ⟨g348, 0, none⟩), .int .i64 2] ?_; (with_reducible refine (spec_l91Map.calls k g348 t346 t350 2 t351 t354 t357 w _ ?side1 ?side2 A5.out).mono ?_); (case side1 => repeat (first | (with_reducible first | exact HI348.out | apply IsS82.alloc | apply IsS82.drewN | apply IsS82.drew | apply IsS82.set_1 | refine IsS82.far ?_ NB348_345.out _) | exact HI348.out)); (case side2 => repeat (first | (with_reducible first | exact HB.out | apply bA | apply bN | apply bD | refine bS ?_ (IsS82.ge HI348.out) | refine bS ?_ GE345.out) | exact HB.out)); rintro e w9 ⟨v352, v355, rfl, ho0, ho1, hi, hb, hk⟩; refine ⟨_, rfl, ?_⟩; replace BK345 := A0_ (KeepBut.blk hk (g' := gb345) (o := .cells #[.slice none 0 0, .slice none 0 0] 25 (0, 0)) (zK_ BK345) NB345_348.out (by simp)); have HO353 := A0_ (Kd.Q_lower (Kd.Q_newM (M := fun k_ => (w.heap.size ≤ k_)) ho0 (bZ (by repeat (first | (with_reducible first | exact HB.out | apply bA | apply bN | apply bD | refine bS ?_ (IsS82.ge HI348.out) | refine bS ?_ GE345.out) | exact HB.out))) (fun k_ h_ => h_)) (bZ (by repeat (first | (with_reducible first | exact HB.out | apply bA | apply bN | apply bD | refine bS ?_ (IsS82.ge HI348.out) | refine bS ?_ GE345.out) | exact HB.out)))); have HO356 := A0_ (rL (Kd.R_newM (M := fun k_ => (w.heap.size ≤ k_)) ho1 (bZ (by repeat (first | (with_reducible first | exact HB.out | apply bA | apply bN | apply bD | refine bS ?_ (IsS82.ge HI348.out) | refine bS ?_ GE345.out) | exact HB.out))) (fun k_ h_ => h_)) (bZ (by repeat (first | (with_reducible first | exact HB.out | apply bA | apply bN | apply bD | refine bS ?_ (IsS82.ge HI348.out) | refine bS ?_ GE345.out) | exact HB.out)))); replace HB := A0_ (hb); replace HI348 := A0_ (hi); (try clear hb); (try clear ho0); (try clear ho1)) | ((with_reducible refine gD (N := 6) rfl ?_); refine zX (N := 6) (cs := #[.slice none 0 0, .slice none 0 0]) (t := 25) ?_; intro gb358 hg w10 hbox hb; replace HO353 := A0_ (Kd.Q_below (zQ_ HO353) hb); replace HO356 := zR HO356 hb; have BK358 := A0_ (hbox); have GW358 := A0_ ((by rw [hg]; exact (bZ (by repeat (first | (with_reducible first | exact HB.out | apply bA | apply bN | apply bD | refine bS ?_ (IsS82.ge HI348.out) | refine bS ?_ GE345.out) | exact HB.out))) : w.heap.size ≤ gb358)); have GE358 := A0_ ((by rw [hg]; exact (bZ (by repeat (first | (with_reducible first | exact HB.out | apply bA | apply bN | apply bD | refine bS ?_ (IsS82.ge HI348.out) | refine bS ?_ GE345.out) | exact HB.out))) : w.heap.size ≤ gb358)); replace HB := A0_ (bT (by repeat (first | (with_reducible first | exact HB.out | apply bA | apply bN | apply bD | refine bS ?_ (IsS82.ge HI348.out) | refine bS ?_ GE345.out) | exact HB.out)) hb); have NB345_358 := zL hg BK345; have NB358_345 := zM hg BK345; replace BK345 := zK BK345 hb; have NB348_358 := A0_ ((by rw [hg]; exact Nat.ne_of_lt (IsS82.lt (show IsS82 w _ g348 t346 t357 from by repeat (first | (with_reducible first | exact HI348.out | apply IsS82.alloc | apply IsS82.drewN | apply IsS82.drew | apply IsS82.set_1 | refine IsS82.far ?_ NB348_345.out _) | exact HI348.out))) : g348 ≠ gb358)); have NB358_348 := A0_ ((by rw [hg]; exact Nat.ne_of_gt (IsS82.lt (show IsS82 w _ g348 t346 t357 from by repeat (first | (with_reducible first | exact HI348.out | apply IsS82.alloc | apply IsS82.drewN | apply IsS82.drew | apply IsS82.set_1 | refine IsS82.far ?_ NB348_345.out _) | exact HI348.out))) : gb358 ≠ g348)); replace HI348 := A0_ (IsS82.below (by repeat (first | (with_reducible first | exact HI348.out | apply IsS82.alloc | apply IsS82.drewN | apply IsS82.drew | apply IsS82.set_1 | refine IsS82.far ?_ NB348_345.out _) | exact HI348.out)) hb); clear hb hbox hg; obtain ⟨Ao11, co11, eo11, _⟩ := Kd.Q_slice HO353.out; subst eo11; have hnb12 := NB358_345.out; have hnc12 := NB345_358.out; have hnb13 := NB358_348.out; have hnc13 := NB348_358.out; have hcz14_0 := zc0 BK358; have hcz14_1 := zc1 BK358; have hfz14_0 := kF BK358.out 0; have hfz14_1 := kF BK358.out 1; obtain ⟨Ao15, co15, eo15⟩ := rS HO356.out; subst eo15) | ((with_reducible refine gD (N := 16) rfl ?_); refine Kd.N_lit (Kd.slice 3 (Kd.int .i64)) _ 23 ?hg (N' := 16) ?hd (xs := ([] : List (List Int))) (inner := []) (ok := (fun k_ => (w.heap.size ≤ k_) ∧ some k_ ≠ (.slice Ao11 t351.length co11 : Value).ownBlock ∧ some k_ ≠ (.slice Ao15 t354.length co15 : Value).ownBlock ∧ k_ ≠ gb345 ∧ k_ ≠ gb358 ∧ k_ ≠ g348)) (okp := (fun k_ => (w.heap.size ≤ k_) ∧ some k_ ≠ (.slice Ao11 t351.length co11 : Value).ownBlock ∧ some k_ ≠ (.slice Ao15 t354.length co15 : Value).ownBlock ∧ k_ ≠ gb345 ∧ k_ ≠ gb358 ∧ k_ ≠ g348)) ?hr ?hp (fun _ hk => hk) ((show ∀ k_, ((w10.setCell ⟨gb358, 0, none⟩ (.slice Ao11 t351.length co11)).setCell ⟨gb358, 1, none⟩ (.slice Ao15 t354.length co15)).heap.size ≤ k_ → (fun k_ => (w.heap.size ≤ k_) ∧ some k_ ≠ (.slice Ao11 t351.length co11 : Value).ownBlock ∧ some k_ ≠ (.slice Ao15 t354.length co15 : Value).ownBlock ∧ k_ ≠ gb345 ∧ k_ ≠ gb358 ∧ k_ ≠ g348) k_ from fun k_ hk => ⟨(Nat.le_trans (bZ (by repeat (first | (with_reducible first | exact HB.out | apply bA | apply bN | apply bD | refine bS ?_ (IsS82.ge HI348.out) | refine bS ?_ GE345.out | refine bS ?_ GE358.out) | exact HB.out))) hk), Kd.fresh' (Kd.Q_lt (by (with_reducible repeat (first | apply Kd.Q_alloc | apply Kd.Q_drewN | apply Kd.Q_drew)); exact (Kd.Q_mono (Kd.Q_far (p := ⟨gb358, 1, none⟩) (Kd.Q_far (p := ⟨gb358, 0, none⟩) (Kd.Q_types HO353.out BK358.out (by decide)) (fun _ hk => hk.2) (.slice Ao11 t351.length co11)) (fun _ hk => hk.2) (.slice Ao15 t354.length co15)) (fun _ h_ => h_.1)))) k_ hk, Kd.fresh' (rX (zF HO356 BK358 (.slice Ao11 t351.length co11) (.slice Ao15 t354.length co15) 0 1)) k_ hk, Kd.freshB (g := gb345) (o := .cells #[.slice none 0 0, .slice none 0 0] 25 (0, 0)) (by (with_reducible repeat (first | refine kN ?_ _ | refine kD ?_ | refine kA ?_ _)); refine blk_far ?_ NB345_358.out _; (with_reducible repeat (first | refine kN ?_ _ | refine kD ?_ | refine kA ?_ _)); refine blk_far ?_ NB345_358.out _; (with_reducible repeat (first | refine kN ?_ _ | refine kD ?_ | refine kA ?_ _)); exact BK345.out) k_ hk, Kd.freshB (g := gb358) (o := .cells #[.slice Ao11 t351.length co11, .slice Ao15 t354.length co15] 25 (0, 0)) (by (with_reducible repeat (first | refine kN ?_ _ | refine kD ?_ | refine kA ?_ _)); refine blk_put (cs := #[.slice Ao11 t351.length co11, .slice none 0 0]) ?_ 1 _ rfl; (with_reducible repeat (first | refine kN ?_ _ | refine kD ?_ | refine kA ?_ _)); refine blk_put (cs := #[.slice none 0 0, .slice none 0 0]) ?_ 0 _ rfl; (with_reducible repeat (first | refine kN ?_ _ | refine kD ?_ | refine kA ?_ _)); exact BK358.out) k_ hk, IsS82.fresh (by repeat (first | (with_reducible first | exact HI348.out | apply IsS82.alloc | apply IsS82.drewN | apply IsS82.drew | apply IsS82.set_1 | refine IsS82.far ?_ NB348_345.out _ | refine IsS82.far ?_ NB348_358.out _) | exact HI348.out)) k_ hk⟩) _ (Nat.le_refl _)) (Below.refl _ _) (Nat.le_refl _) (by simp) ?_; (case hd => rfl); (case hg => rfl); (case hr => first | (go_simp; done) | (go_simp; rfl)); (case hp => exact (Reps.none _ _)); intro v360 w16 ho17 hb hg_ hnew_; clear hg_ hnew_; (first | rw [← Ny359.out] at ho17 | (simp only [Int.reduceToNat] at ho17; rw [← Ny359.out] at ho17)); replace HO353 := A0_ (Kd.Q_below (by (with_reducible repeat (first | apply Kd.Q_alloc | apply Kd.Q_drewN | apply Kd.Q_drew)); exact (Kd.Q_mono (Kd.Q_far (p := ⟨gb358, 1, none⟩) (Kd.Q_far (p := ⟨gb358, 0, none⟩) (Kd.Q_types HO353.out BK358.out (by decide)) (fun _ hk => hk.2) (.slice Ao11 t351.length co11)) (fun _ hk => hk.2) (.slice Ao15 t354.length co15)) (fun _ h_ => h_.1))) hb); replace HO356 := A0_ (rB (zF HO356 BK358 (.slice Ao11 t351.length co11) (.slice Ao15 t354.length co15) 0 1) hb); have HO361 := A0_ (Kd.N_lower ho17 (bZ (by repeat (first | (with_reducible first | exact HB.out | apply bA | apply bN | apply bD | refine bS ?_ (IsS82.ge HI348.out) | refine bS ?_ GE345.out | refine bS ?_ GE358.out) | exact HB.out)))); replace BK345 := A0_ (kB (g := gb345) (o := .cells #[.slice none 0 0, .slice none 0 0] 25 (0, 0)) (by (with_reducible repeat (first | refine kN ?_ _ | refine kD ?_ | refine kA ?_ _)); refine blk_far ?_ NB345_358.out _; (with_reducible repeat (first | refine kN ?_ _ | refine kD ?_ | refine kA ?_ _)); refine blk_far ?_ NB345_358.out _; (with_reducible repeat (first | refine kN ?_ _ | refine kD ?_ | refine kA ?_ _)); exact BK345.out) hb); replace BK358 := A0_ (kB (g := gb358) (o := .cells #[.slice Ao11 t351.length co11, .slice Ao15 t354.length co15] 25 (0, 0)) (by (with_reducible repeat (first | refine kN ?_ _ | refine kD ?_ | refine kA ?_ _)); refine blk_put (cs := #[.slice Ao11 t351.length co11, .slice none 0 0]) ?_ 1 _ rfl; (with_reducible repeat (first | refine kN ?_ _ | refine kD ?_ | refine kA ?_ _)); refine blk_put (cs := #[.slice none 0 0, .slice none 0 0]) ?_ 0 _ rfl; (with_reducible repeat (first | refine kN ?_ _ | refine kD ?_ | refine kA ?_ _)); exact BK358.out) hb); replace HB := A0_ (bT (by repeat (first | (with_reducible first | exact HB.out | apply bA | apply bN | apply bD | refine bS ?_ (IsS82.ge HI348.out) | refine bS ?_ GE345.out | refine bS ?_ GE358.out) | exact HB.out)) hb); replace HI348 := A0_ (IsS82.below (show IsS82 w ((w10.setCell ⟨gb358, 0, none⟩ (.slice Ao11 t351.length co11)).setCell ⟨gb358, 1, none⟩ (.slice Ao15 t354.length co15)) g348 t346 t357 from by repeat (first | (with_reducible first | exact HI348.out | apply IsS82.alloc | apply IsS82.drewN | apply IsS82.drew | apply IsS82.set_1 | refine IsS82.far ?_ NB348_345.out _ | refine IsS82.far ?_ NB348_358.out _) | exact HI348.out)) hb); clear hb ho17))
  go_loopg [7, 8] k (fun kq v7 v8 w' => ∃ (x7_1 : List (List Int)) (x8_1 : Int) (x349001_1 : Int), v8 = .int .i64 x8_1 ∧ Aside0 (spec_DrawCoverDeck.l0 kq x7_1 x8_1 t346 x349001_1 t351 t354 = some (r1, r2, r3, r4)) ∧ Aside0 (kq ≤ k) ∧ Aside0 (Kd.N (Kd.slice 3 (Kd.int .i64)) 23 w' w.heap.size (fun k_ => (w.heap.size ≤ k_) ∧ some k_ ≠ ((.slice Ao11 t351.length co11) : Value).ownBlock ∧ some k_ ≠ ((.slice Ao15 t354.length co15) : Value).ownBlock ∧ k_ ≠ gb345 ∧ k_ ≠ gb358 ∧ k_ ≠ g348) v7 x7_1) ∧ Aside0 (Kd.Q (Kd.int .i64) 3 w' w.heap.size (fun k_ => (w.heap.size ≤ k_) ∧ some k_ ≠ ((.slice Ao15 t354.length co15) : Value).ownBlock) (.slice Ao11 t351.length co11) t351) ∧ Aside0 (Kd.R (Kd.int .i64) 3 w' w.heap.size (fun k_ => (w.heap.size ≤ k_) ∧ some k_ ≠ ((.slice Ao11 t351.length co11) : Value).ownBlock) (.slice Ao15 t354.length co15) t354) ∧ Aside0 (w'.heap[gb345]? = some (.cells #[(.slice none 0 0), (.slice none 0 0)] 25 (0, 0))) ∧ Aside0 (w'.heap[gb358]? = some (.cells #[(.slice Ao11 t351.length co11), (.slice Ao15 t354.length co15)] 25 (0, 0))) ∧ Aside0 (IsS82 w w' g348 t346 x349001_1) ∧ Aside0 (Below w.heap.size w w'))
  case atStart => exact ⟨(y359), (0), (t357), zt, H', ⟨Nat.le_refl _⟩, ⟨by (with_reducible repeat (first | apply Kd.N_alloc | apply Kd.N_drewN | apply Kd.N_drew)); exact HO361.out⟩, ⟨zQ_ HO353⟩, ⟨zR_ HO356⟩, ⟨zK_ BK345⟩, ⟨zK_ BK358⟩, ⟨by repeat (first | (with_reducible first | exact HI348.out | apply IsS82.alloc | apply IsS82.drewN | apply IsS82.drew | apply IsS82.set_1 | refine IsS82.far ?_ NB348_345.out _ | refine IsS82.far ?_ NB348_358.out _) | exact HI348.out)⟩, ⟨by repeat (first | (with_reducible first | exact HB.out | apply bA | apply bN | apply bD | refine bS ?_ (IsS82.ge HI348.out) | refine bS ?_ GE345.out | refine bS ?_ GE358.out) | exact HB.out)⟩⟩
  case round =>
   clear H'; (try clear c1); (try clear c2); (try clear p2); (try clear c4); (try clear c4b0); (try clear c4b1); (try clear c5); (try clear c7); (try clear c12); (try clear c13); (try clear hcz14_0); (try clear hcz14_1); (try clear hfz14_0); (try clear hfz14_1); obtain ⟨x7_1, x8_1, x349001_1, rfl, HA, HK1, HO_7, HO_359000, HO_359001, BK345, BK358, HI348, HB⟩ := hrel
   cases gk with
   | zero => exact absurd HA.out (by simp [spec_DrawCoverDeck.l0])
   | succ k1 =>
    have H := HA.out; clear HA; simp only [spec_DrawCoverDeck.l0] at H
    by_cases c18 : x8_1 < (wrap64 ((t354.length : Int) / 2))
    ·rw [if_pos c18] at H
     have c18b0 := dT c18; clear c18
     obtain ⟨y362, hy362⟩ : ∃ y_ : List Int, y_ = (([1, 2, 0] : List Int)) := ⟨_, rfl⟩
     replace H : ((some (([y362, (([2, 0, 1] : List Int)), (([0, 1, 2] : List Int))] : List (List Int)) : List (List Int))).bind fun y371 => ((spec_l6Rd_pick.f k1 t346 x349001_1 3).bind fun bt374 => (if 0 ≤ bt374.1 then (if bt374.1 < (y371.length : Int) then (if x7_1.length < 5864062014805 then (spec_DrawCoverDeck.l0 k1 (x7_1 ++ [rd_L1 y371 bt374.1]) (wrap64 (x8_1 + 1)) t346 bt374.2 t351 t354) else (none)) else (none)) else (none)))) = some (r1, r2, r3, r4) := zH hy362 H
     have Ny362 := A0_ hy362; clear hy362
     obtain ⟨y365, hy365⟩ : ∃ y_ : List Int, y_ = (([2, 0, 1] : List Int)) := ⟨_, rfl⟩
     replace H : ((some (([y362, y365, (([0, 1, 2] : List Int))] : List (List Int)) : List (List Int))).bind fun y371 => ((spec_l6Rd_pick.f k1 t346 x349001_1 3).bind fun bt374 => (if 0 ≤ bt374.1 then (if bt374.1 < (y371.length : Int) then (if x7_1.length < 5864062014805 then (spec_DrawCoverDeck.l0 k1 (x7_1 ++ [rd_L1 y371 bt374.1]) (wrap64 (x8_1 + 1)) t346 bt374.2 t351 t354) else (none)) else (none)) else (none)))) = some (r1, r2, r3, r4) := zH hy365 H
     have Ny365 := A0_ hy365; clear hy365
     obtain ⟨y368, hy368⟩ : ∃ y_ : List Int, y_ = (([0, 1, 2] : List Int)) := ⟨_, rfl⟩
     replace H : ((some (([y362, y365, y368] : List (List Int)) : List (List Int))).bind fun y371 => ((spec_l6Rd_pick.f k1 t346 x349001_1 3).bind fun bt374 => (if 0 ≤ bt374.1 then (if bt374.1 < (y371.length : Int) then (if x7_1.length < 5864062014805 then (spec_DrawCoverDeck.l0 k1 (x7_1 ++ [rd_L1 y371 bt374.1]) (wrap64 (x8_1 + 1)) t346 bt374.2 t351 t354) else (none)) else (none)) else (none)))) = some (r1, r2, r3, r4) := zH hy368 H
     have Ny368 := A0_ hy368; clear hy368
     obtain ⟨y371, hy371⟩ : ∃ y_ : List (List Int), y_ = (([y362, y365, y368] : List (List Int))) := ⟨_, rfl⟩
     replace H : ((spec_l6Rd_pick.f k1 t346 x349001_1 3).bind fun bt374 => (if 0 ≤ bt374.1 then (if bt374.1 < (y371.length : Int) then (if x7_1.length < 5864062014805 then (spec_DrawCoverDeck.l0 k1 (x7_1 ++ [rd_L1 y371 bt374.1]) (wrap64 (x8_1 + 1)) t346 bt374.2 t351 t354) else (none)) else (none)) else (none))) = some (r1, r2, r3, r4) := zH hy371 H
     have Ny371 := A0_ hy371; clear hy371; obtain ⟨⟨t374, t375⟩, A19, H⟩ := zbind H; dsimp only at H
     by_cases c20 : 0 ≤ t374
     ·rw [if_pos c20] at H
      have c20b0 := dT c20; clear c20
      by_cases c21 : t374 < (y371.length : Int)
      ·rw [if_pos c21] at H
       have c21b0 := dT c21; clear c21
       by_cases c22 : x7_1.length < 5864062014805
       ·rw [if_pos c22] at H
        have LMc22 := A0_ c22; clear c22
        obtain ⟨y377, hy377⟩ : ∃ y_ : List (List Int), y_ = (x7_1 ++ [rd_L1 y371 t374]) := ⟨_, rfl⟩
        replace H : (spec_DrawCoverDeck.l0 k1 y377 (wrap64 (x8_1 + 1)) t346 t375 t351 t354) = some (r1, r2, r3, r4) := zH hy377 H
        have Ny377 := A0_ hy377; clear hy377; have H' := A0_ H; clear H; have hnb23 := NB358_345.out; have hnc23 := NB345_358.out; have hnb24 := NB358_348.out; have hnc24 := NB348_358.out; have hcz25_0 := zc0 BK358; have hcz25_1 := zc1 BK358; have hfz25_0 := kF BK358.out 0; have hfz25_1 := kF BK358.out 1
        go_wp2_with (first | ((with_reducible refine gD (N := 26) rfl ?_); refine Kd.R_lit (Kd.int .i64) _ 3 ?hg (N := 26) ?hd (xs := ([1, 2, 0] : List Int)) (inner := [.int .i64 1, .int .i64 2, .int .i64 0]) (ok := fun _ => True) (okp := fun _ => True) ?hr ?hp (fun _ hk => hk) trivial (Below.refl _ _) (Nat.le_refl _) (by simp) ?_; (case hd => rfl); (case hg => rfl); (case hr => first | (go_simp; done) | (go_simp; rfl)); (case hp => exact (Reps.one (show Kd.M (Kd.int .i64) _ _ _ 1 [.int .i64 1] from rfl) (Reps.one (show Kd.M (Kd.int .i64) _ _ _ 2 [.int .i64 2] from rfl) (Reps.one (show Kd.M (Kd.int .i64) _ _ _ 0 [.int .i64 0] from rfl) (Reps.none _ _))))); intro v363 w26 ho27 hb hg_ hnew_; clear hg_ hnew_; (first | rw [← Ny362.out] at ho27 | (simp only [Int.reduceToNat] at ho27; rw [← Ny362.out] at ho27)); replace HO_7 := A0_ (Kd.N_elder' (by (with_reducible repeat (first | apply Kd.N_alloc | apply Kd.N_drewN | apply Kd.N_drew)); exact HO_7.out) (Kd.R_base ho27) hb); have HO364 := A0_ (rL (Kd.R_new' (Kd.R_new' (Kd.R_newM (M := fun k_ => (w.heap.size ≤ k_)) ho27 (bZ (by repeat (first | (with_reducible first | exact HB.out | apply bA | apply bN | apply bD | refine bS ?_ (IsS82.ge HI348.out) | refine bS ?_ GE345.out | refine bS ?_ GE358.out) | exact HB.out))) (fun k_ h_ => h_)) (Kd.Q_lt (zQ_ HO_359000))) (rX (zR_ HO_359001))) (bZ (by repeat (first | (with_reducible first | exact HB.out | apply bA | apply bN | apply bD | refine bS ?_ (IsS82.ge HI348.out) | refine bS ?_ GE345.out | refine bS ?_ GE358.out) | exact HB.out)))); replace HO_359000 := A0_ (Kd.Q_elder' (zQ_ HO_359000) (Kd.R_base ho27) hb); replace HO_359001 := A0_ (Kd.R_elder' (zR_ HO_359001) (Kd.R_base ho27) hb); replace BK345 := zK BK345 hb; replace BK358 := zK BK358 hb; replace HB := A0_ (bT (by repeat (first | (with_reducible first | exact HB.out | apply bA | apply bN | apply bD | refine bS ?_ (IsS82.ge HI348.out) | refine bS ?_ GE345.out | refine bS ?_ GE358.out) | exact HB.out)) hb); replace HI348 := A0_ (IsS82.below (by repeat (first | (with_reducible first | exact HI348.out | apply IsS82.alloc | apply IsS82.drewN | apply IsS82.drew | apply IsS82.set_1 | refine IsS82.far ?_ NB348_345.out _ | refine IsS82.far ?_ NB348_358.out _) | exact HI348.out)) hb); clear hb ho27) | ((with_reducible refine gD (N := 27) rfl ?_); refine Kd.R_lit (Kd.int .i64) _ 3 ?hg (N := 27) ?hd (xs := ([2, 0, 1] : List Int)) (inner := [.int .i64 2, .int .i64 0, .int .i64 1]) (ok := fun _ => True) (okp := fun _ => True) ?hr ?hp (fun _ hk => hk) trivial (Below.refl _ _) (Nat.le_refl _) (by simp) ?_; (case hd => rfl); (case hg => rfl); (case hr => first | (go_simp; done) | (go_simp; rfl)); (case hp => exact (Reps.one (show Kd.M (Kd.int .i64) _ _ _ 2 [.int .i64 2] from rfl) (Reps.one (show Kd.M (Kd.int .i64) _ _ _ 0 [.int .i64 0] from rfl) (Reps.one (show Kd.M (Kd.int .i64) _ _ _ 1 [.int .i64 1] from rfl) (Reps.none _ _))))); intro v366 w28 ho29 hb hg_ hnew_; clear hg_ hnew_; (first | rw [← Ny365.out] at ho29 | (simp only [Int.reduceToNat] at ho29; rw [← Ny365.out] at ho29)); replace HO_7 := A0_ (Kd.N_elder' (by (with_reducible repeat (first | apply Kd.N_alloc | apply Kd.N_drewN | apply Kd.N_drew)); exact HO_7.out) (Kd.R_base ho29) hb); have HO367 := A0_ (rL (Kd.R_new' (Kd.R_new' (Kd.R_new' (Kd.R_newM (M := fun k_ => (w.heap.size ≤ k_)) ho29 (bZ (by repeat (first | (with_reducible first | exact HB.out | apply bA | apply bN | apply bD | refine bS ?_ (IsS82.ge HI348.out) | refine bS ?_ GE345.out | refine bS ?_ GE358.out) | exact HB.out))) (fun k_ h_ => h_)) (Kd.Q_lt (zQ_ HO_359000))) (rX (zR_ HO_359001))) (rX (zR_ HO364))) (bZ (by repeat (first | (with_reducible first | exact HB.out | apply bA | apply bN | apply bD | refine bS ?_ (IsS82.ge HI348.out) | refine bS ?_ GE345.out | refine bS ?_ GE358.out) | exact HB.out)))); replace HO_359000 := A0_ (Kd.Q_elder' (zQ_ HO_359000) (Kd.R_base ho29) hb); replace HO_359001 := A0_ (Kd.R_elder' (zR_ HO_359001) (Kd.R_base ho29) hb); replace HO364 := A0_ (Kd.R_elder' (zR_ HO364) (Kd.R_base ho29) hb); replace BK345 := zK BK345 hb; replace BK358 := zK BK358 hb; replace HB := A0_ (bT (by repeat (first | (with_reducible first | exact HB.out | apply bA | apply bN | apply bD | refine bS ?_ (IsS82.ge HI348.out) | refine bS ?_ GE345.out | refine bS ?_ GE358.out) | exact HB.out)) hb); replace HI348 := A0_ (IsS82.below (by repeat (first | (with_reducible first | exact HI348.out | apply IsS82.alloc | apply IsS82.drewN | apply IsS82.drew | apply IsS82.set_1 | refine IsS82.far ?_ NB348_345.out _ | refine IsS82.far ?_ NB348_358.out _) | exact HI348.out)) hb); clear hb ho29) | ((with_reducible refine gD (N := 28) rfl ?_); refine Kd.R_lit (Kd.int .i64) _ 3 ?hg (N := 28) ?hd (xs := ([0, 1, 2] : List Int)) (inner := [.int .i64 0, .int .i64 1, .int .i64 2]) (ok := fun _ => True) (okp := fun _ => True) ?hr ?hp (fun _ hk => hk) trivial (Below.refl _ _) (Nat.le_refl _) (by simp) ?_; (case hd => rfl); (case hg => rfl); (case hr => first | (go_simp; done) | (go_simp; rfl)); (case hp => exact (Reps.one (show Kd.M (Kd.int .i64) _ _ _ 0 [.int .i64 0] from rfl) (Reps.one (show Kd.M (Kd.int .i64) _ _ _ 1 [.int .i64 1] from rfl) (Reps.one (show Kd.M (Kd.int .i64) _ _ _ 2 [.int .i64 2] from rfl) (Reps.none _ _))))); intro v369 w30 ho31 hb hg_ hnew_; clear hg_ hnew_; (first | rw [← Ny368.out] at ho31 | (simp only [Int.reduceToNat] at ho31; rw [← Ny368.out] at ho31)); replace HO_7 := A0_ (Kd.N_elder' (by (with_reducible repeat (first | apply Kd.N_alloc | apply Kd.N_drewN | apply Kd.N_drew)); exact HO_7.out) (Kd.R_base ho31) hb); have HO370 := A0_ (rL (Kd.R_new' (Kd.R_new' (Kd.R_new' (Kd.R_new' (Kd.R_newM (M := fun k_ => (w.heap.size ≤ k_)) ho31 (bZ (by repeat (first | (with_reducible first | exact HB.out | apply bA | apply bN | apply bD | refine bS ?_ (IsS82.ge HI348.out) | refine bS ?_ GE345.out | refine bS ?_ GE358.out) | exact HB.out))) (fun k_ h_ => h_)) (Kd.Q_lt (zQ_ HO_359000))) (rX (zR_ HO_359001))) (rX (zR_ HO364))) (rX (zR_ HO367))) (bZ (by repeat (first | (with_reducible first | exact HB.out | apply bA | apply bN | apply bD | refine bS ?_ (IsS82.ge HI348.out) | refine bS ?_ GE345.out | refine bS ?_ GE358.out) | exact HB.out)))); replace HO_359000 := A0_ (Kd.Q_elder' (zQ_ HO_359000) (Kd.R_base ho31) hb); replace HO_359001 := A0_ (Kd.R_elder' (zR_ HO_359001) (Kd.R_base ho31) hb); replace HO364 := A0_ (Kd.R_elder' (zR_ HO364) (Kd.R_base ho31) hb); replace HO367 := A0_ (Kd.R_elder' (zR_ HO367) (Kd.R_base ho31) hb); replace BK345 := zK BK345 hb; replace BK358 := zK BK358 hb; replace HB := A0_ (bT (by repeat (first | (with_reducible first | exact HB.out | apply bA | apply bN | apply bD | refine bS ?_ (IsS82.ge HI348.out) | refine bS ?_ GE345.out | refine bS ?_ GE358.out) | exact HB.out)) hb); replace HI348 := A0_ (IsS82.below (by repeat (first | (with_reducible first | exact HI348.out | apply IsS82.alloc | apply IsS82.drewN | apply IsS82.drew | apply IsS82.set_1 | refine IsS82.far ?_ NB348_345.out _ | refine IsS82.far ?_ NB348_358.out _) | exact HI348.out)) hb); clear hb ho31; obtain ⟨Ao32, co32, eo32⟩ := rS HO364.out; subst eo32; obtain ⟨Ao33, co33, eo33⟩ := rS HO367.out; subst eo33; obtain ⟨Ao34, co34, eo34⟩ := rS HO370.out; subst eo34) | ((with_reducible refine gD (N := 29) rfl ?_); refine Kd.N_lit (Kd.slice 3 (Kd.int .i64)) _ 23 ?hg (N' := 29) ?hd (xs := ([y362, y365, y368] : List (List Int))) (inner := [.slice Ao32 y362.length co32, .slice Ao33 y365.length co33, .slice Ao34 y368.length co34]) (ok := (fun k_ => (w.heap.size ≤ k_) ∧ some k_ ≠ (u7 : Value).ownBlock ∧ some k_ ≠ (.slice Ao11 t351.length co11 : Value).ownBlock ∧ some k_ ≠ (.slice Ao15 t354.length co15 : Value).ownBlock ∧ k_ ≠ gb345 ∧ k_ ≠ gb358 ∧ k_ ≠ g348)) (okp := (fun k_ => (w.heap.size ≤ k_) ∧ some k_ ≠ (u7 : Value).ownBlock ∧ some k_ ≠ (.slice Ao11 t351.length co11 : Value).ownBlock ∧ some k_ ≠ (.slice Ao15 t354.length co15 : Value).ownBlock ∧ k_ ≠ gb345 ∧ k_ ≠ gb358 ∧ k_ ≠ g348)) ?hr ?hp (fun _ hk => hk) ((show ∀ k_, w30.heap.size ≤ k_ → (fun k_ => (w.heap.size ≤ k_) ∧ some k_ ≠ (u7 : Value).ownBlock ∧ some k_ ≠ (.slice Ao11 t351.length co11 : Value).ownBlock ∧ some k_ ≠ (.slice Ao15 t354.length co15 : Value).ownBlock ∧ k_ ≠ gb345 ∧ k_ ≠ gb358 ∧ k_ ≠ g348) k_ from fun k_ hk => ⟨(Nat.le_trans (bZ (by repeat (first | (with_reducible first | exact HB.out | apply bA | apply bN | apply bD | refine bS ?_ (IsS82.ge HI348.out) | refine bS ?_ GE345.out | refine bS ?_ GE358.out) | exact HB.out))) hk), Kd.fresh' (Kd.N_lt (by (with_reducible repeat (first | apply Kd.N_alloc | apply Kd.N_drewN | apply Kd.N_drew)); exact HO_7.out)) k_ hk, Kd.fresh' (Kd.Q_lt (zQ_ HO_359000)) k_ hk, Kd.fresh' (rX (zR_ HO_359001)) k_ hk, Kd.freshB (g := gb345) (o := .cells #[.slice none 0 0, .slice none 0 0] 25 (0, 0)) (zK_ BK345) k_ hk, Kd.freshB (g := gb358) (o := .cells #[.slice Ao11 t351.length co11, .slice Ao15 t354.length co15] 25 (0, 0)) (zK_ BK358) k_ hk, IsS82.fresh (by repeat (first | (with_reducible first | exact HI348.out | apply IsS82.alloc | apply IsS82.drewN | apply IsS82.drew | apply IsS82.set_1 | refine IsS82.far ?_ NB348_345.out _ | refine IsS82.far ?_ NB348_358.out _) | exact HI348.out)) k_ hk⟩) _ (Nat.le_refl _)) (Below.refl _ _) (Nat.le_refl _) (by simp) ?_; (case hd => rfl); (case hg => rfl); (case hr => first | (go_simp; done) | (go_simp; rfl)); (case hp => exact (Reps.one (show Kd.FK (Kd.slice 3 (Kd.int .i64)) _ _ y362 [.slice Ao32 y362.length co32] from (Kd.FK_slice_mk (rR (rM (ok' := (fun k_ => (w.heap.size ≤ k_) ∧ some k_ ≠ (u7 : Value).ownBlock ∧ some k_ ≠ (.slice Ao11 t351.length co11 : Value).ownBlock ∧ some k_ ≠ (.slice Ao15 t354.length co15 : Value).ownBlock ∧ k_ ≠ gb345 ∧ k_ ≠ gb358 ∧ k_ ≠ g348)) (IsS82.apart HI348.out (rY (rY (Kd.R_apart' (HO364.out) (Kd.N_typed HO_7.out) (by decide)) BK345.out (by decide)) BK358.out (by decide)) (by decide)) (fun k_ hk => ⟨hk.1.1.1.1.1.1.1.1.1, ⟨hk.1.1.1.2, ⟨hk.1.1.1.1.1.1.1.2, ⟨hk.1.1.1.1.1.1.2, ⟨hk.1.1.2, ⟨hk.1.2, hk.2⟩⟩⟩⟩⟩⟩))).2.1 (Kd.R_F (rM (ok' := (fun k_ => (w.heap.size ≤ k_) ∧ some k_ ≠ (u7 : Value).ownBlock ∧ some k_ ≠ (.slice Ao11 t351.length co11 : Value).ownBlock ∧ some k_ ≠ (.slice Ao15 t354.length co15 : Value).ownBlock ∧ k_ ≠ gb345 ∧ k_ ≠ gb358 ∧ k_ ≠ g348)) (IsS82.apart HI348.out (rY (rY (Kd.R_apart' (HO364.out) (Kd.N_typed HO_7.out) (by decide)) BK345.out (by decide)) BK358.out (by decide)) (by decide)) (fun k_ hk => ⟨hk.1.1.1.1.1.1.1.1.1, ⟨hk.1.1.1.2, ⟨hk.1.1.1.1.1.1.1.2, ⟨hk.1.1.1.1.1.1.2, ⟨hk.1.1.2, ⟨hk.1.2, hk.2⟩⟩⟩⟩⟩⟩))))) (Reps.one (show Kd.FK (Kd.slice 3 (Kd.int .i64)) _ _ y365 [.slice Ao33 y365.length co33] from (Kd.FK_slice_mk (rR (rM (ok' := (fun k_ => (w.heap.size ≤ k_) ∧ some k_ ≠ (u7 : Value).ownBlock ∧ some k_ ≠ (.slice Ao11 t351.length co11 : Value).ownBlock ∧ some k_ ≠ (.slice Ao15 t354.length co15 : Value).ownBlock ∧ k_ ≠ gb345 ∧ k_ ≠ gb358 ∧ k_ ≠ g348)) (IsS82.apart HI348.out (rY (rY (Kd.R_apart' (HO367.out) (Kd.N_typed HO_7.out) (by decide)) BK345.out (by decide)) BK358.out (by decide)) (by decide)) (fun k_ hk => ⟨hk.1.1.1.1.1.1.1.1.1, ⟨hk.1.1.1.2, ⟨hk.1.1.1.1.1.1.1.2, ⟨hk.1.1.1.1.1.1.2, ⟨hk.1.1.2, ⟨hk.1.2, hk.2⟩⟩⟩⟩⟩⟩))).2.1 (Kd.R_F (rM (ok' := (fun k_ => (w.heap.size ≤ k_) ∧ some k_ ≠ (u7 : Value).ownBlock ∧ some k_ ≠ (.slice Ao11 t351.length co11 : Value).ownBlock ∧ some k_ ≠ (.slice Ao15 t354.length co15 : Value).ownBlock ∧ k_ ≠ gb345 ∧ k_ ≠ gb358 ∧ k_ ≠ g348)) (IsS82.apart HI348.out (rY (rY (Kd.R_apart' (HO367.out) (Kd.N_typed HO_7.out) (by decide)) BK345.out (by decide)) BK358.out (by decide)) (by decide)) (fun k_ hk => ⟨hk.1.1.1.1.1.1.1.1.1, ⟨hk.1.1.1.2, ⟨hk.1.1.1.1.1.1.1.2, ⟨hk.1.1.1.1.1.1.2, ⟨hk.1.1.2, ⟨hk.1.2, hk.2⟩⟩⟩⟩⟩⟩))))) (Reps.one (show Kd.FK (Kd.slice 3 (Kd.int .i64)) _ _ y368 [.slice Ao34 y368.length co34] from (Kd.FK_slice_mk (rR (rM (ok' := (fun k_ => (w.heap.size ≤ k_) ∧ some k_ ≠ (u7 : Value).ownBlock ∧ some k_ ≠ (.slice Ao11 t351.length co11 : Value).ownBlock ∧ some k_ ≠ (.slice Ao15 t354.length co15 : Value).ownBlock ∧ k_ ≠ gb345 ∧ k_ ≠ gb358 ∧ k_ ≠ g348)) (IsS82.apart HI348.out (rY (rY (Kd.R_apart' (HO370.out) (Kd.N_typed HO_7.out) (by decide)) BK345.out (by decide)) BK358.out (by decide)) (by decide)) (fun k_ hk => ⟨hk.1.1.1.1.1.1.1.1.1, ⟨hk.1.1.1.2, ⟨hk.1.1.1.1.1.1.1.2, ⟨hk.1.1.1.1.1.1.2, ⟨hk.1.1.2, ⟨hk.1.2, hk.2⟩⟩⟩⟩⟩⟩))).2.1 (Kd.R_F (rM (ok' := (fun k_ => (w.heap.size ≤ k_) ∧ some k_ ≠ (u7 : Value).ownBlock ∧ some k_ ≠ (.slice Ao11 t351.length co11 : Value).ownBlock ∧ some k_ ≠ (.slice Ao15 t354.length co15 : Value).ownBlock ∧ k_ ≠ gb345 ∧ k_ ≠ gb358 ∧ k_ ≠ g348)) (IsS82.apart HI348.out (rY (rY (Kd.R_apart' (HO370.out) (Kd.N_typed HO_7.out) (by decide)) BK345.out (by decide)) BK358.out (by decide)) (by decide)) (fun k_ hk => ⟨hk.1.1.1.1.1.1.1.1.1, ⟨hk.1.1.1.2, ⟨hk.1.1.1.1.1.1.1.2, ⟨hk.1.1.1.1.1.1.2, ⟨hk.1.1.2, ⟨hk.1.2, hk.2⟩⟩⟩⟩⟩⟩))))) (Reps.none _ _))))); intro v372 w35 ho36 hb hg_ hnew_; clear hg_ hnew_; (first | rw [← Ny371.out] at ho36 | (simp only [Int.reduceToNat] at ho36; rw [← Ny371.out] at ho36)); replace HO_7 := A0_ (Kd.N_elder' (by (with_reducible repeat (first | apply Kd.N_alloc | apply Kd.N_drewN | apply Kd.N_drew)); exact HO_7.out) (Kd.N_base ho36) hb); replace HO_359000 := A0_ (Kd.Q_below (zQ_ HO_359000) hb); replace HO_359001 := zR HO_359001 hb; have HO373 := A0_ (Kd.N_lower ho36 (bZ (by repeat (first | (with_reducible first | exact HB.out | apply bA | apply bN | apply bD | refine bS ?_ (IsS82.ge HI348.out) | refine bS ?_ GE345.out | refine bS ?_ GE358.out) | exact HB.out)))); replace BK345 := zK BK345 hb; replace BK358 := zK BK358 hb; replace HB := A0_ (bT (by repeat (first | (with_reducible first | exact HB.out | apply bA | apply bN | apply bD | refine bS ?_ (IsS82.ge HI348.out) | refine bS ?_ GE345.out | refine bS ?_ GE358.out) | exact HB.out)) hb); replace HI348 := A0_ (IsS82.below (by repeat (first | (with_reducible first | exact HI348.out | apply IsS82.alloc | apply IsS82.drewN | apply IsS82.drew | apply IsS82.set_1 | refine IsS82.far ?_ NB348_345.out _ | refine IsS82.far ?_ NB348_358.out _) | exact HI348.out)) hb); clear HO364 HO367 HO370 hb ho36) | ((with_reducible refine gC (f := 74) rfl ?_); refine zJ (some 31) Try.func74 #[.pointer (some ⟨g348, 0, none⟩), .int .i64 3] ?_; (with_reducible refine (spec_l6Rd_pick.calls k1 g348 t346 x349001_1 3 t374 t375 w _ ?side1 ?side2 A19.out).mono ?_); (case side1 => repeat (first | (with_reducible first | exact HI348.out | apply IsS82.alloc | apply IsS82.drewN | apply IsS82.drew | apply IsS82.set_1 | refine IsS82.far ?_ NB348_345.out _ | refine IsS82.far ?_ NB348_358.out _) | exact HI348.out)); (case side2 => repeat (first | (with_reducible first | exact HB.out | apply bA | apply bN | apply bD | refine bS ?_ (IsS82.ge HI348.out) | refine bS ?_ GE345.out | refine bS ?_ GE358.out) | exact HB.out)); rintro e w37 ⟨rfl, hi, hb, hk⟩; refine ⟨_, rfl, ?_⟩; replace HO_7 := A0_ (Kd.N_mono (Kd.N_keep (Kd.N_mono (ok := fun k_ => (((((((w.heap.size ≤ k_)) ∧ (some k_ ≠ (.slice Ao11 t351.length co11 : Value).ownBlock ∧ (some k_ ≠ (.slice Ao15 t354.length co15 : Value).ownBlock ∧ (k_ ≠ gb345 ∧ (k_ ≠ gb358 ∧ k_ ≠ g348))))) ∧ some k_ ≠ (.slice Ao32 y362.length co32 : Value).ownBlock) ∧ some k_ ≠ (.slice Ao33 y365.length co33 : Value).ownBlock) ∧ some k_ ≠ (.slice Ao34 y368.length co34 : Value).ownBlock) ∧ some k_ ≠ (v372 : Value).ownBlock)) (by (with_reducible repeat (first | apply Kd.N_alloc | apply Kd.N_drewN | apply Kd.N_drew)); exact HO_7.out) (fun k_ hk_ => (⟨hk_, hk_.1.1.1.1.2.2.2.2.2⟩ : _ ∧ k_ ≠ g348))) hk (fun _ h => h.2)) (fun _ h => h.1)); replace HO_359000 := A0_ (Kd.Q_mono (Kd.Q_keep (IsS82.apartQ (show IsS82 w _ g348 t346 x349001_1 from by repeat (first | (with_reducible first | exact HI348.out | apply IsS82.alloc | apply IsS82.drewN | apply IsS82.drew | apply IsS82.set_1 | refine IsS82.far ?_ NB348_345.out _ | refine IsS82.far ?_ NB348_358.out _) | exact HI348.out)) (zQ_ HO_359000) (by decide)) hk (fun _ h => h.2)) (fun _ h => h.1)); replace HO_359001 := A0_ (rM (Kd.R_keep (IsS82.apart (show IsS82 w _ g348 t346 x349001_1 from by repeat (first | (with_reducible first | exact HI348.out | apply IsS82.alloc | apply IsS82.drewN | apply IsS82.drew | apply IsS82.set_1 | refine IsS82.far ?_ NB348_345.out _ | refine IsS82.far ?_ NB348_358.out _) | exact HI348.out)) (zR_ HO_359001) (by decide)) hk (fun _ h => h.2)) (fun _ h => h.1)); replace BK345 := A0_ (KeepBut.blk hk (g' := gb345) (o := .cells #[.slice none 0 0, .slice none 0 0] 25 (0, 0)) (zK_ BK345) NB345_348.out (by simp)); replace BK358 := A0_ (KeepBut.blk hk (g' := gb358) (o := .cells #[.slice Ao11 t351.length co11, .slice Ao15 t354.length co15] 25 (0, 0)) (zK_ BK358) NB358_348.out (by simp)); replace HO373 := A0_ (Kd.N_mono (Kd.N_keep (Kd.N_mono (ok := fun k_ => (((w.heap.size ≤ k_)) ∧ (some k_ ≠ (u7 : Value).ownBlock ∧ (some k_ ≠ (.slice Ao11 t351.length co11 : Value).ownBlock ∧ (some k_ ≠ (.slice Ao15 t354.length co15 : Value).ownBlock ∧ (k_ ≠ gb345 ∧ (k_ ≠ gb358 ∧ k_ ≠ g348))))))) (by (with_reducible repeat (first | apply Kd.N_alloc | apply Kd.N_drewN | apply Kd.N_drew)); exact HO373.out) (fun k_ hk_ => (⟨hk_, hk_.2.2.2.2.2.2⟩ : _ ∧ k_ ≠ g348))) hk (fun _ h => h.2)) (fun _ h => h.1)); replace HB := A0_ (hb); replace HI348 := A0_ (hi); (try clear hb); obtain ⟨Ao38, co38, eo38⟩ := Kd.N_slice HO373.out; subst eo38; have p376 : 0 ≤ (t374 : Int) := zd; have q376 : t374 < (y371.length : Int) := zd; obtain ⟨ad376, A376_0, c376_0, e376, hx376_0, hl376_0, hi376_0⟩ := at_L1 (Kd.N_reads' HO373.out).2.2 t374 p376 q376; cases e376; obtain ⟨ce376, hce376, hMe376, hcc376⟩ := Kd.N_get HO373.out [] t374 p376 (by first | exact q376 | exact zd | (have e_ := (Kd.N_reads' HO373.out).1; omega)); obtain ⟨ua376_0, uc376_0, rfl, ul376_0, ge376_0⟩ := Kd.FK_slice_open hMe376; have hv376_0 := hcc376 0 _ rfl; rw [Nat.add_zero, show ((Kd.slice 3 (Kd.int .i64))).sz = 1 from rfl, Nat.mul_one] at hv376_0; replace hv376_0 := sI (hv376_0.symm.trans hx376_0); injection hv376_0 with hva_ hvn_ hvc_; rw [hva_] at ge376_0; rw [hvc_] at ul376_0; have HL376_0 := A0_ (show Kd.V (Kd.int .i64) 3 _ w.heap.size _ _ (rd_L1 y371 t374) from Kd.V_mk ul376_0 ge376_0); clear hva_ hvn_ hvc_ ge376_0 ul376_0 hcc376 hce376; have HR376_0 := A0_ hi376_0; have HC376_0 := A0_ hl376_0; clear hi376_0 hl376_0; replace p376 := eq_true p376; replace q376 := eq_true q376) | ((with_reducible refine gB (b := .append) (xs := #[.tmp 25, .tmp 34]) rfl ?_); at_builtin; refine Kd.N_append (Kd.slice 3 (Kd.int .i64)) (w0 := w) w.heap.size rfl (.tmp 25) (.tmp 34) 26 23 (.slice none 0 0) 24 rfl Try.underlying26 info23 rfl (by decide) (by omega) u7 x7_1 (rd_L1 y371 t374) [.slice A376_0 (rd_L1 y371 t374).length c376_0] (fun k_ => (w.heap.size ≤ k_) ∧ some k_ ≠ (.slice Ao11 t351.length co11 : Value).ownBlock ∧ some k_ ≠ (.slice Ao15 t354.length co15 : Value).ownBlock ∧ some k_ ≠ (.slice (some ad376) y371.length co38 : Value).ownBlock ∧ k_ ≠ gb345 ∧ k_ ≠ gb358 ∧ k_ ≠ g348) (fun k_ => ((fun k_ => (w.heap.size ≤ k_) ∧ some k_ ≠ (.slice Ao11 t351.length co11 : Value).ownBlock ∧ some k_ ≠ (.slice Ao15 t354.length co15 : Value).ownBlock ∧ some k_ ≠ (.slice (some ad376) y371.length co38 : Value).ownBlock ∧ k_ ≠ gb345 ∧ k_ ≠ gb358 ∧ k_ ≠ g348)) k_ ∧ some k_ ≠ (u7 : Value).ownBlock) rfl rfl ?aP (fun _ hk => hk) ?aF ?aO ?aB ?aS ?aL ?_; (case aP => exact (Kd.FK_slice_mk (Kd.V_reads' (Kd.V_mono (ok' := (fun k_ => ((fun k_ => (w.heap.size ≤ k_) ∧ some k_ ≠ (.slice Ao11 t351.length co11 : Value).ownBlock ∧ some k_ ≠ (.slice Ao15 t354.length co15 : Value).ownBlock ∧ some k_ ≠ (.slice (some ad376) y371.length co38 : Value).ownBlock ∧ k_ ≠ gb345 ∧ k_ ≠ gb358 ∧ k_ ≠ g348)) k_ ∧ some k_ ≠ (u7 : Value).ownBlock)) (HL376_0.out) (fun k_ hk => ⟨⟨hk.1.1, ⟨hk.1.2.2.1, ⟨hk.1.2.2.2.1, ⟨hk.2, ⟨hk.1.2.2.2.2.1, ⟨hk.1.2.2.2.2.2.1, hk.1.2.2.2.2.2.2⟩⟩⟩⟩⟩⟩, hk.1.2.1⟩))).2.1 (Kd.V_F (Kd.V_mono (ok' := (fun k_ => ((fun k_ => (w.heap.size ≤ k_) ∧ some k_ ≠ (.slice Ao11 t351.length co11 : Value).ownBlock ∧ some k_ ≠ (.slice Ao15 t354.length co15 : Value).ownBlock ∧ some k_ ≠ (.slice (some ad376) y371.length co38 : Value).ownBlock ∧ k_ ≠ gb345 ∧ k_ ≠ gb358 ∧ k_ ≠ g348)) k_ ∧ some k_ ≠ (u7 : Value).ownBlock)) (HL376_0.out) (fun k_ hk => ⟨⟨hk.1.1, ⟨hk.1.2.2.1, ⟨hk.1.2.2.2.1, ⟨hk.2, ⟨hk.1.2.2.2.2.1, ⟨hk.1.2.2.2.2.2.1, hk.1.2.2.2.2.2.2⟩⟩⟩⟩⟩⟩, hk.1.2.1⟩))))); (case aB => exact (by repeat (first | (with_reducible first | exact HB.out | apply bA | apply bN | apply bD | refine bS ?_ (IsS82.ge HI348.out) | refine bS ?_ GE345.out | refine bS ?_ GE358.out) | exact HB.out))); (case aF => exact (fun k_ hk => ⟨(Nat.le_trans (bZ (by repeat (first | (with_reducible first | exact HB.out | apply bA | apply bN | apply bD | refine bS ?_ (IsS82.ge HI348.out) | refine bS ?_ GE345.out | refine bS ?_ GE358.out) | exact HB.out))) hk), Kd.fresh' (Kd.Q_lt (zQ_ HO_359000)) k_ hk, Kd.fresh' (rX (zR_ HO_359001)) k_ hk, Kd.fresh' (Kd.N_lt (by (with_reducible repeat (first | apply Kd.N_alloc | apply Kd.N_drewN | apply Kd.N_drew)); exact HO373.out)) k_ hk, Kd.freshB (g := gb345) (o := .cells #[.slice none 0 0, .slice none 0 0] 25 (0, 0)) (zK_ BK345) k_ hk, Kd.freshB (g := gb358) (o := .cells #[.slice Ao11 t351.length co11, .slice Ao15 t354.length co15] 25 (0, 0)) (zK_ BK358) k_ hk, IsS82.fresh (by repeat (first | (with_reducible first | exact HI348.out | apply IsS82.alloc | apply IsS82.drewN | apply IsS82.drew | apply IsS82.set_1 | refine IsS82.far ?_ NB348_345.out _ | refine IsS82.far ?_ NB348_358.out _) | exact HI348.out)) k_ hk⟩)); (case aO => exact (by (with_reducible repeat (first | apply Kd.N_alloc | apply Kd.N_drewN | apply Kd.N_drew)); exact Kd.N_mono HO_7.out (fun _ hk => ⟨hk.1.1.1.1.1, ⟨hk.1.1.1.1.2.1, ⟨hk.1.1.1.1.2.2.1, ⟨hk.2, ⟨hk.1.1.1.1.2.2.2.1, ⟨hk.1.1.1.1.2.2.2.2.1, hk.1.1.1.1.2.2.2.2.2⟩⟩⟩⟩⟩⟩))); (case aS => exact (bZ (by repeat (first | (with_reducible first | exact HB.out | apply bA | apply bN | apply bD | refine bS ?_ (IsS82.ge HI348.out) | refine bS ?_ GE345.out | refine bS ?_ GE358.out) | exact HB.out)))); (case aL => have := LMc22.out; omega); intro v378 w39 ho hb hg hat; rw [← Ny377.out] at ho; replace HO_359000 := A0_ (Kd.Q_over' (zQ_ HO_359000) (Kd.N_typed (by (with_reducible repeat (first | apply Kd.N_alloc | apply Kd.N_drewN | apply Kd.N_drew)); exact HO_7.out)) (by decide) hg); replace HO_359001 := A0_ (Kd.R_over' (zR_ HO_359001) (Kd.N_typed (by (with_reducible repeat (first | apply Kd.N_alloc | apply Kd.N_drewN | apply Kd.N_drew)); exact HO_7.out)) (by decide) hg); replace BK345 := A0_ (blk_grown (g := gb345) (o := .cells #[.slice none 0 0, .slice none 0 0] 25 (0, 0)) (zK_ BK345) hg (Kd.N_ne HO_7.out BK345.out (by decide))); replace BK358 := A0_ (blk_grown (g := gb358) (o := .cells #[.slice Ao11 t351.length co11, .slice Ao15 t354.length co15] 25 (0, 0)) (zK_ BK358) hg (Kd.N_ne HO_7.out BK358.out (by decide))); replace HI348 := A0_ (IsS82.grown (by repeat (first | (with_reducible first | exact HI348.out | apply IsS82.alloc | apply IsS82.drewN | apply IsS82.drew | apply IsS82.set_1 | refine IsS82.far ?_ NB348_345.out _ | refine IsS82.far ?_ NB348_358.out _) | exact HI348.out)) hg (IsS82.own_neN HI348.out HO_7.out (by decide))); replace HO373 := A0_ (Kd.N_afterv (ok := (fun k_ => (w.heap.size ≤ k_) ∧ some k_ ≠ (.slice Ao11 t351.length co11 : Value).ownBlock ∧ some k_ ≠ (.slice Ao15 t354.length co15 : Value).ownBlock ∧ k_ ≠ gb345 ∧ k_ ≠ gb358 ∧ k_ ≠ g348)) (by (with_reducible repeat (first | apply Kd.N_alloc | apply Kd.N_drewN | apply Kd.N_drew)); exact Kd.N_mono HO373.out (fun _ hk => ⟨⟨hk.1, ⟨hk.2.2.1, ⟨hk.2.2.2.1, ⟨hk.2.2.2.2.1, ⟨hk.2.2.2.2.2.1, hk.2.2.2.2.2.2⟩⟩⟩⟩⟩, hk.2.1⟩)) hg hat); replace HL376_0 := A0_ (Kd.V_afterv (ok := (fun k_ => (w.heap.size ≤ k_) ∧ some k_ ≠ (.slice Ao11 t351.length co11 : Value).ownBlock ∧ some k_ ≠ (.slice Ao15 t354.length co15 : Value).ownBlock ∧ some k_ ≠ (.slice (some ad376) y371.length co38 : Value).ownBlock ∧ k_ ≠ gb345 ∧ k_ ≠ gb358 ∧ k_ ≠ g348)) (by (with_reducible repeat (first | apply Kd.V_alloc | apply Kd.V_drewN | apply Kd.V_drew)); exact Kd.V_mono HL376_0.out (fun _ hk => ⟨⟨hk.1.1, ⟨hk.1.2.2.1, ⟨hk.1.2.2.2.1, ⟨hk.2, ⟨hk.1.2.2.2.2.1, ⟨hk.1.2.2.2.2.2.1, hk.1.2.2.2.2.2.2⟩⟩⟩⟩⟩⟩, hk.1.2.1⟩)) hg hat); replace HB := A0_ (hb); have HO379 := A0_ (ho); clear HO_7 ho hb hg hat))
        go_roundg k1
        case measure => have := HK1.out; omega
        case rel => exact ⟨(y377), (wrap64 (x8_1 + 1)), (t375), zt, H', ⟨by have := HK1.out; omega⟩, ⟨by (with_reducible repeat (first | apply Kd.N_alloc | apply Kd.N_drewN | apply Kd.N_drew)); exact Kd.N_mono HO379.out (fun _ hk => ⟨hk.1, ⟨hk.2.1, ⟨hk.2.2.1, ⟨hk.2.2.2.2.1, ⟨hk.2.2.2.2.2.1, hk.2.2.2.2.2.2⟩⟩⟩⟩⟩)⟩, ⟨zmQ HO_359000 (fun _ hk => ⟨hk.1.1.1.1, hk.1.1.1.2⟩)⟩, ⟨zmR HO_359001 (fun _ hk => ⟨hk.1.1.1.1, hk.1.1.1.2⟩)⟩, ⟨zK_ BK345⟩, ⟨zK_ BK358⟩, ⟨by repeat (first | (with_reducible first | exact HI348.out | apply IsS82.alloc | apply IsS82.drewN | apply IsS82.drew | apply IsS82.set_1 | refine IsS82.far ?_ NB348_345.out _ | refine IsS82.far ?_ NB348_358.out _) | exact HI348.out)⟩, ⟨by repeat (first | (with_reducible first | exact HB.out | apply bA | apply bN | apply bD | refine bS ?_ (IsS82.ge HI348.out) | refine bS ?_ GE345.out | refine bS ?_ GE358.out) | exact HB.out)⟩⟩
       rw [if_neg c22] at H
       exact absurd H (by simp)
      rw [if_neg c21] at H
      exact absurd H (by simp)
     rw [if_neg c20] at H
     exact absurd H (by simp)
    rw [if_neg c18] at H; have c18b0 := dF c18; clear c18; simp only [Option.some.injEq, Prod.mk.injEq] at H; obtain ⟨rfl, rfl, rfl, rfl⟩ := H; have hnb40 := NB358_345.out; have hnc40 := NB345_358.out; have hnb41 := NB358_348.out; have hnc41 := NB348_358.out; have hcz42_0 := zc0 BK358; have hcz42_1 := zc1 BK358; have hfz42_0 := kF BK358.out 0; have hfz42_1 := kF BK358.out 1; have hnb43 := NB345_348.out; have hnc43 := NB348_345.out; have hcz44_0 := zc0 BK345; have hcz44_1 := zc1 BK345; have hfz44_0 := kF BK345.out 0; have hfz44_1 := kF BK345.out 1
    go_wp2
    refine bodyPost_ret (results_ctt rfl _ _ gb345 25 #[.slice Ao11 t351.length co11, .slice Ao15 t354.length co15] (0, 0) _ rfl (by (with_reducible repeat (first | refine kN ?_ _ | refine kD ?_ | refine kA ?_ _)); refine blk_put (cs := #[.slice Ao11 t351.length co11, .slice none 0 0]) ?_ 1 _ rfl; (with_reducible repeat (first | refine kN ?_ _ | refine kD ?_ | refine kA ?_ _)); refine blk_put (cs := #[.slice none 0 0, .slice none 0 0]) ?_ 0 _ rfl; (with_reducible repeat (first | refine kN ?_ _ | refine kD ?_ | refine kA ?_ _)); exact BK345.out) Try.underlying25 rfl (by kernel_rfl)) rfl ?_
    exact ⟨_, _, _, by first | rfl | (simp [*] <;> rfl), by (with_reducible repeat (first | apply Kd.Q_alloc | apply Kd.Q_drewN | apply Kd.Q_drew)); exact Kd.Q_mono (Kd.Q_far (p := ⟨gb345, 1, none⟩) (Kd.Q_far (p := ⟨gb345, 0, none⟩) (Kd.Q_types HO_359000.out BK345.out (by decide)) (fun _ hk => hk.2) (.slice Ao11 t351.length co11)) (fun _ hk => hk.2) (.slice Ao15 t354.length co15)) (fun _ hk => ⟨hk.1.1, hk.1.2⟩), by (with_reducible repeat (first | apply rA | apply rN | apply rD)); exact rM (rF (p := ⟨gb345, 1, none⟩) (rF (p := ⟨gb345, 0, none⟩) (rY HO_359001.out BK345.out (by decide)) (fun _ hk => hk.2) (.slice Ao11 t351.length co11)) (fun _ hk => hk.2) (.slice Ao15 t354.length co15)) (fun _ hk => ⟨hk.1.1, hk.1.2⟩), by (with_reducible repeat (first | apply Kd.N_alloc | apply Kd.N_drewN | apply Kd.N_drew)); exact Kd.N_mono (Kd.N_far (p := ⟨gb345, 1, none⟩) (Kd.N_far (p := ⟨gb345, 0, none⟩) (Kd.N_mono HO_7.out (fun k_ hk => (⟨hk, hk.2.2.2.1⟩ : _ ∧ k_ ≠ gb345))) (fun _ hk => hk.2) (.slice Ao11 t351.length co11)) (fun _ hk => hk.2) (.slice Ao15 t354.length co15)) (fun _ hk => ⟨hk.1.1, ⟨hk.1.2.1, hk.1.2.2.1⟩⟩), by repeat (first | (with_reducible first | exact HB.out | apply bA | apply bN | apply bD | refine bS ?_ (IsS82.ge HI348.out) | refine bS ?_ GE345.out | refine bS ?_ GE358.out) | exact HB.out)⟩
 rw [if_neg c4] at H
 have c4b0 : (t349 == 0) = false := beq_eq_false_iff_ne.mpr c4
 have c4b1 : (t349 != 0) = true := bne_iff_ne.mpr c4
 obtain ⟨⟨t380, t383, t386, t387, t390⟩, A45, H⟩ := zbind H; dsimp only at H; simp only [Option.some.injEq, Prod.mk.injEq] at H; obtain ⟨rfl, rfl, rfl, rfl⟩ := H
 go_enter Try.func26, Try.ntmps26
 go_wp2_with (first | ((with_reducible refine gD (N := 2) rfl ?_); refine zX (N := 2) (cs := #[.slice none 0 0, .slice none 0 0]) (t := 25) ?_; intro gb345 hg w46 hbox hb; have BK345 := A0_ (hbox); have GW345 := zG hg HB; have GE345 := zG hg HB; replace HB := zB HB hb; clear hb hbox hg) | ((with_reducible refine gC (f := 52) rfl ?_); refine zJ (some 10) Try.func52 #[.slice A0 l0.length c0] ?_; (with_reducible refine (spec_l6Open.calls _ _ l0 t346 t347 w _ ?side1 ?side2 ?side3 A2.out).mono ?_); (case side1 => repeat (first | (with_reducible first | exact HB.out | apply bA | apply bN | apply bD | refine bS ?_ GE345.out) | exact HB.out)); (case side2 => exact HR0.out); (case side3 => exact HC0.out); rintro e w47 ⟨g348, rfl, hi, hb, hb2⟩; refine ⟨_, rfl, ?_⟩; replace HB := A0_ (hb); have HI348 := A0_ (hi); have NB348_345 := A0_ (IsS82.ne_blk hi (kB (g := gb345) (o := .cells #[.slice none 0 0, .slice none 0 0] 25 (0, 0)) (zK_ BK345) hb2) (by decide)); have NB345_348 := A0_ (Ne.symm (IsS82.ne_blk hi (kB (g := gb345) (o := .cells #[.slice none 0 0, .slice none 0 0] 25 (0, 0)) (zK_ BK345) hb2) (by decide))); replace BK345 := A0_ (kB (g := gb345) (o := .cells #[.slice none 0 0, .slice none 0 0] 25 (0, 0)) (zK_ BK345) hb2); (try clear hb)) | ((with_reducible refine gC (f := 74) rfl ?_); refine zJ (some 12) Try.func74 #[.pointer (some ⟨g348, 0, none⟩), .int .i64 3] ?_; (with_reducible refine (spec_l6Rd_pick.calls k g348 t346 t347 3 t349 t350 w _ ?side1 ?side2 A3.out).mono ?_); (case side1 => repeat (first | (with_reducible first | exact HI348.out | apply IsS82.alloc | apply IsS82.drewN | apply IsS82.drew | apply IsS82.set_1 | refine IsS82.far ?_ NB348_345.out _) | exact HI348.out)); (case side2 => repeat (first | (with_reducible first | exact HB.out | apply bA | apply bN | apply bD | refine bS ?_ (IsS82.ge HI348.out) | refine bS ?_ GE345.out) | exact HB.out)); rintro e w48 ⟨rfl, hi, hb, hk⟩; refine ⟨_, rfl, ?_⟩; replace BK345 := A0_ (KeepBut.blk hk (g' := gb345) (o := .cells #[.slice none 0 0, .slice none 0 0] 25 (0, 0)) (zK_ BK345) NB345_348.out (by simp)); replace HB := A0_ (hb); replace HI348 := A0_ (hi); (try clear hb)) | ((with_reducible refine gC (f := 51) rfl ?_); refine zJ (some 39) Try.func51 #[.pointer (some ⟨g348, 0, none⟩)] ?_; (with_reducible refine (spec_l92Cover.calls k g348 t346 t350 t380 t383 t386 t387 t390 w _ ?side1 ?side2 A45.out).mono ?_); (case side1 => repeat (first | (with_reducible first | exact HI348.out | apply IsS82.alloc | apply IsS82.drewN | apply IsS82.drew | apply IsS82.set_1 | refine IsS82.far ?_ NB348_345.out _) | exact HI348.out)); (case side2 => repeat (first | (with_reducible first | exact HB.out | apply bA | apply bN | apply bD | refine bS ?_ (IsS82.ge HI348.out) | refine bS ?_ GE345.out) | exact HB.out)); rintro e w49 ⟨v381, v384, v388, rfl, ho0, ho1, ho2, hi, hb, hk⟩; refine ⟨_, rfl, ?_⟩; have HO382 := A0_ (Kd.Q_lower (Kd.Q_newM (M := fun k_ => (w.heap.size ≤ k_)) ho0 (bZ (by repeat (first | (with_reducible first | exact HB.out | apply bA | apply bN | apply bD | refine bS ?_ (IsS82.ge HI348.out) | refine bS ?_ GE345.out) | exact HB.out))) (fun k_ h_ => h_)) (bZ (by repeat (first | (with_reducible first | exact HB.out | apply bA | apply bN | apply bD | refine bS ?_ (IsS82.ge HI348.out) | refine bS ?_ GE345.out) | exact HB.out)))); have HO385 := A0_ (rL (Kd.R_newM (M := fun k_ => (w.heap.size ≤ k_)) ho1 (bZ (by repeat (first | (with_reducible first | exact HB.out | apply bA | apply bN | apply bD | refine bS ?_ (IsS82.ge HI348.out) | refine bS ?_ GE345.out) | exact HB.out))) (fun k_ h_ => h_)) (bZ (by repeat (first | (with_reducible first | exact HB.out | apply bA | apply bN | apply bD | refine bS ?_ (IsS82.ge HI348.out) | refine bS ?_ GE345.out) | exact HB.out)))); have HO389 := A0_ (Kd.N_lower (Kd.N_mono (ok' := fun k_ => (w.heap.size ≤ k_) ∧ some k_ ≠ (v381 : Value).ownBlock ∧ some k_ ≠ (v384 : Value).ownBlock ∧ k_ ≠ gb345 ∧ k_ ≠ g348) (Kd.S_N (Kd.S_bound ho2)) (fun k_ hk_ => ⟨(Nat.le_trans (bZ (by repeat (first | (with_reducible first | exact HB.out | apply bA | apply bN | apply bD | refine bS ?_ (IsS82.ge HI348.out) | refine bS ?_ GE345.out) | exact HB.out))) hk_.2.1), hk_.1.1, hk_.1.2, (Kd.freshB (g := gb345) (o := .cells #[.slice none 0 0, .slice none 0 0] 25 (0, 0)) (zK_ BK345) k_ hk_.2.1), (IsS82.fresh (by repeat (first | (with_reducible first | exact HI348.out | apply IsS82.alloc | apply IsS82.drewN | apply IsS82.drew | apply IsS82.set_1 | refine IsS82.far ?_ NB348_345.out _) | exact HI348.out)) k_ hk_.2.1)⟩)) (bZ (by repeat (first | (with_reducible first | exact HB.out | apply bA | apply bN | apply bD | refine bS ?_ (IsS82.ge HI348.out) | refine bS ?_ GE345.out) | exact HB.out)))); replace BK345 := A0_ (KeepBut.blk hk (g' := gb345) (o := .cells #[.slice none 0 0, .slice none 0 0] 25 (0, 0)) (zK_ BK345) NB345_348.out (by simp)); replace HB := A0_ (hb); replace HI348 := A0_ (hi); (try clear hb); (try clear ho0); (try clear ho1); (try clear ho2); obtain ⟨Ao50, co50, eo50, _⟩ := Kd.Q_slice HO382.out; subst eo50; have hnb51 := NB345_348.out; have hnc51 := NB348_345.out; have hcz52_0 := zc0 BK345; have hcz52_1 := zc1 BK345; have hfz52_0 := kF BK345.out 0; have hfz52_1 := kF BK345.out 1; obtain ⟨Ao53, co53, eo53⟩ := rS HO385.out; subst eo53))
 refine bodyPost_ret (results_ctt rfl _ _ gb345 25 #[.slice Ao50 t380.length co50, .slice Ao53 t383.length co53] (0, 0) _ rfl (by (with_reducible repeat (first | refine kN ?_ _ | refine kD ?_ | refine kA ?_ _)); refine blk_put (cs := #[.slice Ao50 t380.length co50, .slice none 0 0]) ?_ 1 _ rfl; (with_reducible repeat (first | refine kN ?_ _ | refine kD ?_ | refine kA ?_ _)); refine blk_put (cs := #[.slice none 0 0, .slice none 0 0]) ?_ 0 _ rfl; (with_reducible repeat (first | refine kN ?_ _ | refine kD ?_ | refine kA ?_ _)); exact BK345.out) Try.underlying25 rfl (by kernel_rfl)) rfl ?_
 exact ⟨_, _, _, by first | rfl | (simp [*] <;> rfl), by (with_reducible repeat (first | apply Kd.Q_alloc | apply Kd.Q_drewN | apply Kd.Q_drew)); exact Kd.Q_mono (Kd.Q_far (p := ⟨gb345, 1, none⟩) (Kd.Q_far (p := ⟨gb345, 0, none⟩) (Kd.Q_types HO382.out BK345.out (by decide)) (fun _ hk => hk.2) (.slice Ao50 t380.length co50)) (fun _ hk => hk.2) (.slice Ao53 t383.length co53)) (fun _ hk => ⟨hk.1.1, hk.1.2⟩), by (with_reducible repeat (first | apply rA | apply rN | apply rD)); exact rM (rF (p := ⟨gb345, 1, none⟩) (rF (p := ⟨gb345, 0, none⟩) (rY HO385.out BK345.out (by decide)) (fun _ hk => hk.2) (.slice Ao50 t380.length co50)) (fun _ hk => hk.2) (.slice Ao53 t383.length co53)) (fun _ hk => ⟨hk.1.1, hk.1.2⟩), by (with_reducible repeat (first | apply Kd.N_alloc | apply Kd.N_drewN | apply Kd.N_drew)); exact Kd.N_mono (Kd.N_far (p := ⟨gb345, 1, none⟩) (Kd.N_far (p := ⟨gb345, 0, none⟩) (Kd.N_mono HO389.out (fun k_ hk => (⟨hk, hk.2.2.2.1⟩ : _ ∧ k_ ≠ gb345))) (fun _ hk => hk.2) (.slice Ao50 t380.length co50)) (fun _ hk => hk.2) (.slice Ao53 t383.length co53)) (fun _ hk => ⟨hk.1.1, ⟨hk.1.2.1, hk.1.2.2.1⟩⟩), by repeat (first | (with_reducible first | exact HB.out | apply bA | apply bN | apply bD | refine bS ?_ (IsS82.ge HI348.out) | refine bS ?_ GE345.out) | exact HB.out)⟩

/-! ### impl_mul: function 69 -/
def impl_mul.l0 : Nat → List Int → List Int → List Int → Int → Int → Option (List Int)
  | 0, _, _, _, _, _ => none
  | k + 1, x1, x5, x11, x12, x13 => if x13 < x12 then (if 0 ≤ x13 then (if x13 < (x11.length : Int) then (if 0 ≤ (rd x11 x13) then (if (rd x11 x13) < (x1.length : Int) then (if x13 < (x5.length : Int) then (impl_mul.l0 k x1 (x5.set (x13 : Int).toNat (rd x1 (rd x11 x13))) x11 x12 (wrap64 (x13 + 1))) else (none)) else (none)) else (none)) else (none)) else (none)) else (some x5)
def impl_mul.f (k : Nat) (l0 : List Int) (l1 : List Int) : Option (List Int) := if 0 ≤ (l0.length : Int) then (if ((l0.length : Int) : Int).toNat ≤ 35184372088832 then (impl_mul.l0 k l1 (List.replicate ((l0.length : Int) : Int).toNat 0) l0 (l0.length : Int) 0) else (none)) else (none)
set_option maxHeartbeats 8000000 in
set_option maxRecDepth 100000 in
theorem impl_mul.calls (k : Nat) (A0 : Option Addr) (c0 : Nat) (l0 : List Int) (A1 : Option Addr) (c1 : Nat) (l1 : List Int) (r : List Int) (w : World) (hr0 : Kd.C (Kd.int .i64) w A0 l0.length l0) (hc0 : l0.length ≤ c0) (hr1 : Kd.C (Kd.int .i64) w A1 l1.length l1) (hc1 : l1.length ≤ c1) (h : impl_mul.f k l0 l1 = some r) :
    Calls Try.prog 69 #[.slice A0 l0.length c0, .slice A1 l1.length c1] w fun e w' => ∃ v0_ : Value, e = .returned (v0_) ∧ Kd.R (Kd.int .i64) 3 w' w.heap.size (fun _ => True) v0_ r ∧ Below w.heap.size w w' := by
 have HR0 := A0_ hr0; have HC0 := A0_ hc0; clear hr0 hc0; have HR1 := A0_ hr1; have HC1 := A0_ hc1; clear hr1 hc1
 have HB := A0_ (Below.refl w.heap.size w)
 have H : (if 0 ≤ (l0.length : Int) then (if ((l0.length : Int) : Int).toNat ≤ 35184372088832 then (impl_mul.l0 k l1 (List.replicate ((l0.length : Int) : Int).toNat 0) l0 (l0.length : Int) 0) else (none)) else (none)) = some r := h
 clear h
 by_cases c3 : 0 ≤ (l0.length : Int)
 ·rw [if_pos c3] at H
  have c3b0 := eq_true c3; have c3b1 := dT c3; clear c3
  by_cases c4 : ((l0.length : Int) : Int).toNat ≤ 35184372088832
  ·rw [if_pos c4] at H
   have c4b0 := eq_true c4; have c4b1 := dT c4; clear c4
   obtain ⟨y391, hy391⟩ : ∃ y_ : List Int, y_ = (List.replicate ((l0.length : Int) : Int).toNat 0) := ⟨_, rfl⟩
   replace H : (impl_mul.l0 k l1 y391 l0 (l0.length : Int) 0) = some r := zH hy391 H
   have Ny391 := A0_ hy391; clear hy391; have H' := A0_ H; clear H
   go_enter Try.func69, Try.ntmps69
   go_wp2_with (first | ((with_reducible refine gD (N := 10) rfl ?_); refine Kd.R_make (Kd.int .i64) _ 3 rfl (N := 10) rfl 23 _ _ rfl (l0.length : Int) rfl rfl Try.underlying23 (.int .i64 0) 8 info3 rfl (by decide) (by omega) 0 (ok := fun _ => True) (okp := fun _ => True) rfl (fun _ hk => hk) trivial (zd) (Nat.le_trans (Nat.mul_le_mul_right _ (zd : (l0.length : Int).toNat ≤ 35184372088832)) (by omega)) (Below.refl _ _) (Nat.le_refl _) ?_; intro v392 w5 ho6 hb hg_ hnew_; clear hg_ hnew_; (first | rw [← Ny391.out] at ho6 | (simp only [Int.reduceToNat] at ho6; rw [← Ny391.out] at ho6)); have HO393 := A0_ (rL ho6 (bZ (zB_ HB))); replace HB := zB HB hb; clear hb ho6))
   go_loopg [13] k (fun kq v13 w' => ∃ (x5_1 : List Int) (x13_1 : Int), v13 = .int .i64 x13_1 ∧ Aside0 (impl_mul.l0 kq l1 x5_1 l0 (l0.length : Int) x13_1 = some r) ∧ Aside0 (kq ≤ k) ∧ Aside0 (Kd.R (Kd.int .i64) 3 w' w.heap.size (fun _ => True) v392 x5_1) ∧ Aside0 (Below w.heap.size w w'))
   case atStart => exact ⟨(y391), (0), zt, H', ⟨Nat.le_refl _⟩, ⟨zR_ HO393⟩, ⟨zB_ HB⟩⟩
   case round =>
    clear H'; (try clear c1); (try clear p2); (try clear c3); (try clear c3b0); (try clear c3b1); (try clear c4); (try clear c4b0); (try clear c4b1); (try clear c6); obtain ⟨x5_1, x13_1, rfl, HA, HK1, HO_5, HB⟩ := hrel
    cases gk with
    | zero => exact absurd HA.out (by simp [impl_mul.l0])
    | succ k1 =>
     have H := HA.out; clear HA; simp only [impl_mul.l0] at H
     by_cases c7 : x13_1 < (l0.length : Int)
     ·rw [if_pos c7] at H
      have c7b0 := dT c7; clear c7
      by_cases c8 : 0 ≤ x13_1
      ·rw [if_pos c8] at H
       have c8b0 := dT c8; clear c8
       by_cases c9 : x13_1 < (l0.length : Int)
       ·rw [if_pos c9] at H
        have c9b0 := dT c9; clear c9
        by_cases c10 : 0 ≤ (rd l0 x13_1)
        ·rw [if_pos c10] at H
         have c10b0 := dT c10; clear c10
         by_cases c11 : (rd l0 x13_1) < (l1.length : Int)
         ·rw [if_pos c11] at H
          have c11b0 := dT c11; clear c11
          by_cases c12 : x13_1 < (x5_1.length : Int)
          ·rw [if_pos c12] at H
           have c12b0 := dT c12; clear c12
           obtain ⟨y396, hy396⟩ : ∃ y_ : List Int, y_ = (x5_1.set (x13_1 : Int).toNat (rd l1 (rd l0 x13_1))) := ⟨_, rfl⟩
           replace H : (impl_mul.l0 k1 l1 y396 l0 (l0.length : Int) (wrap64 (x13_1 + 1))) = some r := zH hy396 H
           have Ny396 := A0_ hy396; clear hy396; have H' := A0_ H; clear H
           have p394 : 0 ≤ (x13_1 : Int) := zd
           have q394 : x13_1 < (l0.length : Int) := zd
           obtain ⟨ad394, e394, hx394_0⟩ := tI HR0.out x13_1 p394 q394
           cases e394
           try replace hx394_0 := (HB.out.cell (wL w _ hx394_0)).trans hx394_0
           replace p394 := eq_true p394; replace q394 := eq_true q394
           have p395 : 0 ≤ ((rd l0 x13_1) : Int) := zd
           have q395 : (rd l0 x13_1) < (l1.length : Int) := zd
           obtain ⟨ad395, e395, hx395_0⟩ := tI HR1.out (rd l0 x13_1) p395 q395
           cases e395
           try replace hx395_0 := (HB.out.cell (wL w _ hx395_0)).trans hx395_0
           replace p395 := eq_true p395; replace q395 := eq_true q395
           have p13 : 0 ≤ (x13_1 : Int) := zd
           have q13 : (x13_1 : Int) < ((x5_1.length : Int) : Int) := zd
           obtain ⟨go13, co13, eo13, gb13, gl13, cl13, HG13⟩ := Kd.R_form HO_5.out (by omega)
           (first | cases eo13 | (injection eo13 with ea_ en_ ec_; (first | subst ea_ | (injection ea_ with ea_; subst ea_)); subst ec_; clear en_))
           have GB13 := A0_ gb13; have GG13 := A0_ HG13; clear gb13 gl13 HG13
           obtain ⟨hx13_0, hf13_0⟩ := Kd.R_celln 0 HO_5.out (x13_1 : Int) p13 q13
           replace p13 := eq_true p13; replace q13 := eq_true q13
           have HP14 := Kd.R_putg HO_5.out (x13_1 : Int) (rd l1 (rd l0 x13_1))
           go_wp2_with (first | ((with_reducible refine gS (t := 3) (p := 24) rfl ?_); refine store_event (t := 3) (p := 24) (v := ?vo_w15) (w1 := (wr.setCell ⟨go13, (x13_1 : Int).toNat, none⟩ (.int .i64 (rd l1 (rd l0 x13_1))))) ?hg ?ho ?hn ?hr ?_; (case ho => rfl); (case hg => rfl); (case hn => rfl); (case hr => first | (go_simp; done) | (go_simp; rfl)); intro w15 hw; have hg : wr.grownBy w15 (some go13) := (by rw [hw]; exact HP14.2); have hp_ : Kd.R (Kd.int .i64) 3 w15 w.heap.size (fun _ => True) (.slice (some ⟨go13, 0, none⟩) x5_1.length co13) y396 := (by rw [hw, Ny396.out]; exact HP14.1); clear HP14; replace HO_5 := A0_ (hp_); replace HB := A0_ ((by rw [hw]; exact bS (HB.out) GB13.out : Below w.heap.size w w15)); clear hg hw hp_))
           go_roundg k1
           case measure => have := HK1.out; omega
           case rel => exact ⟨(y396), (wrap64 (x13_1 + 1)), zt, H', ⟨by have := HK1.out; omega⟩, ⟨zR_ HO_5⟩, ⟨zB_ HB⟩⟩
          rw [if_neg c12] at H
          exact absurd H (by simp)
         rw [if_neg c11] at H
         exact absurd H (by simp)
        rw [if_neg c10] at H
        exact absurd H (by simp)
       rw [if_neg c9] at H
       exact absurd H (by simp)
      rw [if_neg c8] at H
      exact absurd H (by simp)
     rw [if_neg c7] at H; have c7b0 := dF c7; clear c7; obtain rfl := sI H
     go_wp2
     go_ret
     exact ⟨_, by first | rfl | (simp [*] <;> rfl), zR_ HO_5, zB_ HB⟩
  rw [if_neg c4] at H
  exact absurd H (by simp)
 rw [if_neg c3] at H
 exact absurd H (by simp)

/-! ### slices_Equal_int_int: function 78 -/
def slices_Equal_int_int.l0 : Nat → List Int → List Int → Int → Int → Option (Bool)
  | 0, _, _, _, _ => none
  | k + 1, x0, x1, x12, x13 => if x13 < x12 then (if 0 ≤ x13 then (if x13 < (x0.length : Int) then (if x13 < (x1.length : Int) then (if (rd x0 x13) = (rd x1 x13) then (slices_Equal_int_int.l0 k x0 x1 x12 (wrap64 (x13 + 1))) else (some false)) else (none)) else (none)) else (none)) else (some true)
def slices_Equal_int_int.f (k : Nat) (l0 : List Int) (l1 : List Int) : Option (Bool) := if (l0.length : Int) = (l1.length : Int) then (slices_Equal_int_int.l0 k l0 l1 (l0.length : Int) 0) else (some false)
set_option maxHeartbeats 8000000 in
set_option maxRecDepth 100000 in
theorem slices_Equal_int_int.calls (k : Nat) (A0 : Option Addr) (c0 : Nat) (l0 : List Int) (A1 : Option Addr) (c1 : Nat) (l1 : List Int) (r : Bool) (w : World) (hr0 : Kd.C (Kd.int .i64) w A0 l0.length l0) (hc0 : l0.length ≤ c0) (hr1 : Kd.C (Kd.int .i64) w A1 l1.length l1) (hc1 : l1.length ≤ c1) (h : slices_Equal_int_int.f k l0 l1 = some r) :
    Calls Try.prog 78 #[.slice A0 l0.length c0, .slice A1 l1.length c1] w fun e w' => e = .returned (.bool r) ∧ Drawn0 w w' := by
 have HR0 := A0_ hr0; have HC0 := A0_ hc0; clear hr0 hc0; have HR1 := A0_ hr1; have HC1 := A0_ hc1; clear hr1 hc1
 have H : (if (l0.length : Int) = (l1.length : Int) then (slices_Equal_int_int.l0 k l0 l1 (l0.length : Int) 0) else (some false)) = some r := h
 clear h
 by_cases c3 : (l0.length : Int) = (l1.length : Int)
 ·rw [if_pos c3] at H
  have c3b0 : ((l0.length : Int) == (l1.length : Int)) = true := beq_iff_eq.mpr c3
  have c3b1 : ((l0.length : Int) != (l1.length : Int)) = false := bne_eq_false_iff_eq.mpr c3
  have c3b2 : (l0.length == l1.length) = true := by first | simpa using c3 | (simp at c3 ⊢; omega)
  clear c3; have H' := A0_ H; clear H
  go_enter Try.func78, Try.ntmps78
  go_wp2
  repeat (go_quiet (fail); try go_wp2)
  go_loopg [13] k (fun kq v13 w' => ∃ (x13_1 : Int), v13 = .int .i64 x13_1 ∧ Aside0 (slices_Equal_int_int.l0 kq l0 l1 (l0.length : Int) x13_1 = some r) ∧ Aside0 (kq ≤ k) ∧ Drawn0 w w')
  case atStart => exact ⟨(0), zt, H', ⟨Nat.le_refl _⟩, by repeat (first | exact Drawn0.refl _ | apply Drawn0.step)⟩
  case round =>
   clear H'; (try clear c1); (try clear p2); (try clear c3); (try clear c3b0); (try clear c3b1); (try clear c3b2); obtain ⟨x13_1, rfl, HA, HK1, ⟨m1, rfl⟩⟩ := hrel
   cases gk with
   | zero => exact absurd HA.out (by simp [slices_Equal_int_int.l0])
   | succ k1 =>
    have H := HA.out; clear HA; simp only [slices_Equal_int_int.l0] at H
    by_cases c4 : x13_1 < (l0.length : Int)
    ·rw [if_pos c4] at H
     have c4b0 := dT c4; clear c4
     by_cases c5 : 0 ≤ x13_1
     ·rw [if_pos c5] at H
      have c5b0 := dT c5; clear c5
      by_cases c6 : x13_1 < (l0.length : Int)
      ·rw [if_pos c6] at H
       have c6b0 := dT c6; clear c6
       by_cases c7 : x13_1 < (l1.length : Int)
       ·rw [if_pos c7] at H
        have c7b0 := dT c7; clear c7
        by_cases c8 : (rd l0 x13_1) = (rd l1 x13_1)
        ·rw [if_pos c8] at H
         have c8b0 : ((rd l0 x13_1) == (rd l1 x13_1)) = true := beq_iff_eq.mpr c8
         have c8b1 : ((rd l0 x13_1) != (rd l1 x13_1)) = false := bne_eq_false_iff_eq.mpr c8
         clear c8; have H' := A0_ H; clear H
         have p397 : 0 ≤ (x13_1 : Int) := zd
         have q397 : x13_1 < (l0.length : Int) := zd
         obtain ⟨ad397, e397, hx397_0⟩ := tI HR0.out x13_1 p397 q397
         cases e397
         replace p397 := eq_true p397; replace q397 := eq_true q397
         have p398 : 0 ≤ (x13_1 : Int) := zd
         have q398 : x13_1 < (l1.length : Int) := zd
         obtain ⟨ad398, e398, hx398_0⟩ := tI HR1.out x13_1 p398 q398
         cases e398
         replace p398 := eq_true p398; replace q398 := eq_true q398
         go_wp2
         repeat (go_quiet (fail); try go_wp2)
         go_roundg k1
         case measure => have := HK1.out; omega
         case rel => exact ⟨(wrap64 (x13_1 + 1)), zt, H', ⟨by have := HK1.out; omega⟩, by repeat (first | exact Drawn0.refl _ | apply Drawn0.step)⟩
        rw [if_neg c8] at H
        have c8b0 : ((rd l0 x13_1) == (rd l1 x13_1)) = false := beq_eq_false_iff_ne.mpr c8
        have c8b1 : ((rd l0 x13_1) != (rd l1 x13_1)) = true := bne_iff_ne.mpr c8
        obtain rfl := sI H
        have p397 : 0 ≤ (x13_1 : Int) := zd
        have q397 : x13_1 < (l0.length : Int) := zd
        obtain ⟨ad397, e397, hx397_0⟩ := tI HR0.out x13_1 p397 q397
        cases e397
        replace p397 := eq_true p397; replace q397 := eq_true q397
        have p398 : 0 ≤ (x13_1 : Int) := zd
        have q398 : x13_1 < (l1.length : Int) := zd
        obtain ⟨ad398, e398, hx398_0⟩ := tI HR1.out x13_1 p398 q398
        cases e398
        replace p398 := eq_true p398; replace q398 := eq_true q398
        go_wp2
        repeat (go_quiet (fail); try go_wp2)
        go_ret
        exact ⟨by first | rfl | (simp; done) | (simp [*]; done), by repeat (first | exact Drawn0.refl _ | apply Drawn0.step)⟩
       rw [if_neg c7] at H
       exact absurd H (by simp)
      rw [if_neg c6] at H
      exact absurd H (by simp)
     rw [if_neg c5] at H
     exact absurd H (by simp)
    rw [if_neg c4] at H; have c4b0 := dF c4; clear c4; obtain rfl := sI H
    go_wp2
    repeat (go_quiet (fail); try go_wp2)
    go_ret
    exact ⟨by first | rfl | (simp; done) | (simp [*]; done), by repeat (first | exact Drawn0.refl _ | apply Drawn0.step)⟩
 rw [if_neg c3] at H
 have c3b0 : ((l0.length : Int) == (l1.length : Int)) = false := beq_eq_false_iff_ne.mpr c3
 have c3b1 : ((l0.length : Int) != (l1.length : Int)) = true := bne_iff_ne.mpr c3
 have c3b2 : (l0.length == l1.length) = false := by first | simpa using c3 | (simp at c3 ⊢; omega)
 obtain rfl := sI H
 go_enter Try.func78, Try.ntmps78
 go_wp2
 repeat (go_quiet (fail); try go_wp2)
 go_ret
 exact ⟨by first | rfl | (simp; done) | (simp [*]; done), by repeat (first | exact Drawn0.refl _ | apply Drawn0.step)⟩

/-! ### slices_Clone_int_int: function 106 -/
def slices_Clone_int_int.f (l0 : List Int) : Option (List Int) := if l0.length ≤ 1048576 then some l0 else none
set_option maxHeartbeats 8000000 in
set_option maxRecDepth 100000 in
theorem slices_Clone_int_int.calls (A0 : Option Addr) (c0 : Nat) (l0 : List Int) (r : List Int) (w : World) (hr0 : Kd.C (Kd.int .i64) w A0 l0.length l0) (hc0 : l0.length ≤ c0) (h : slices_Clone_int_int.f l0 = some r) :
    Calls Try.prog 106 #[.slice A0 l0.length c0] w fun e w' => ∃ v0_ : Value, e = .returned (v0_) ∧ Kd.R (Kd.int .i64) 3 w' w.heap.size (fun _ => True) v0_ r ∧ Below w.heap.size w w' := by
  unfold slices_Clone_int_int.f at h
  by_cases hl : l0.length ≤ 1048576
  · rw [if_pos hl] at h
    obtain rfl := sI h; clear h; have HR0 := A0_ hr0; have HC0 := A0_ hc0; have HL := A0_ hl; clear hr0 hc0 hl
    have HB := A0_ (Below.refl w.heap.size w)
    have he : ∀ w : World, (Go.binOp .eql 23 (.slice A0 l0.length c0) (.slice none 0 0)).run Try.prog w = .ok (.bool A0.isNone) w := fun w => by cases A0 <;> kernel_rfl
    cases A0 with
    | none =>
      have hz : l0 = [] := by
        rcases Nat.eq_zero_or_pos l0.length with z | z
        · exact List.length_eq_zero_iff.1 z
        obtain ⟨ad, e, _⟩ := HR0.out.2.2 z
        cases e
      have HZ := A0_ hz; clear hz
      go_enter Try.func106, Try.ntmps106
      go_wp2
      go_ret
      exact ⟨_, rfl, by rw [HZ.out]; exact Kd.R_nil _ _ _ _ _, HB.out⟩
    | some ad =>
      obtain ⟨y233, hy⟩ : ∃ y_ : List Int, y_ = ([] : List Int) := ⟨_, rfl⟩
      have Ny233 := A0_ hy; clear hy
      have Ny236 := A0_ (show l0 = y233 ++ l0 by rw [Ny233.out]; rfl)
      have LMc2 := A0_ (show y233.length + l0.length < 17592186044416 by rw [Ny233.out]; have := HL.out; simp; omega)
      go_enter Try.func106, Try.ntmps106
      go_wp2_with (first | ((with_reducible refine gD (N := 5) rfl ?_); refine Kd.R_lit (Kd.int .i64) _ 3 ?hg (N := 5) ?hd (xs := ([] : List Int)) (inner := []) (ok := fun _ => True) (okp := fun _ => True) ?hr ?hp (fun _ hk => hk) trivial (Below.refl _ _) (Nat.le_refl _) (by simp) ?_; (case hd => rfl); (case hg => rfl); (case hr => first | (go_simp; done) | (go_simp; rfl)); (case hp => exact (Reps.none _ _)); intro v234 w3 ho4 hb hg_ hnew_; clear hg_ hnew_; (first | rw [← Ny233.out] at ho4 | (simp only [Int.reduceToNat] at ho4; rw [← Ny233.out] at ho4)); have HO235 := A0_ (rL ho4 (bZ (zB_ HB))); replace HB := zB HB hb; clear hb ho4) | ((with_reducible refine gB (b := .append) (xs := #[.tmp 5, .tmp 6]) rfl ?_); at_builtin; refine Kd.R_append_rows (Kd.int .i64) (w0 := w) w.heap.size rfl (.tmp 5) (.tmp 6) 23 3 (.int .i64 0) 8 rfl Try.underlying23 info3 rfl (by decide) (by omega) v234 y233 l0 _ _ _ (fun _ => True) (fun _ => False) rfl rfl ?aO ?aR (fun _ _ h => h) (fun _ h => h.elim) ?aF ?aB ?aS ?aL ?_; (case aR => exact zC HR0 HB); (case aB => exact (zB_ HB)); (case aF => exact (fun _ _ => trivial)); (case aO => exact (zR_ HO235)); (case aS => exact (bZ (zB_ HB))); (case aL => have := LMc2.out; omega); intro v237 w5 ho hb hg hat; rw [← Ny236.out] at ho; replace HB := A0_ (hb); have HO238 := A0_ (ho); clear HO235 ho hb hg hat))
      go_ret
      exact ⟨_, rfl, zR_ HO238, (zB_ HB)⟩
  rw [if_neg hl] at h; cases h


/-! ### slices_Index_int_int: function 115 -/
def slices_Index_int_int.l0 : Nat → List Int → Int → Int → Int → Option (Int)
  | 0, _, _, _, _ => none
  | k + 1, x0, x1, x7, x8 => if x8 < x7 then (if 0 ≤ x8 then (if x8 < (x0.length : Int) then (if x1 = (rd x0 x8) then (some x8) else (slices_Index_int_int.l0 k x0 x1 x7 (wrap64 (x8 + 1)))) else (none)) else (none)) else (some (-1))
def slices_Index_int_int.f (k : Nat) (l0 : List Int) (a1 : Int) : Option (Int) := slices_Index_int_int.l0 k l0 a1 (l0.length : Int) 0
set_option maxHeartbeats 8000000 in
set_option maxRecDepth 100000 in
theorem slices_Index_int_int.calls (k : Nat) (A0 : Option Addr) (c0 : Nat) (l0 : List Int) (a1 : Int) (r : Int) (w : World) (hr0 : Kd.C (Kd.int .i64) w A0 l0.length l0) (hc0 : l0.length ≤ c0) (h : slices_Index_int_int.f k l0 a1 = some r) :
    Calls Try.prog 115 #[.slice A0 l0.length c0, .int .i64 a1] w fun e w' => e = .returned (.int .i64 r) ∧ Drawn0 w w' := by
 have HR0 := A0_ hr0; have HC0 := A0_ hc0; clear hr0 hc0
 have H : (slices_Index_int_int.l0 k l0 a1 (l0.length : Int) 0) = some r := h
 clear h; have H' := A0_ H; clear H
 go_enter Try.func115, Try.ntmps115
 go_wp2
 go_loopg [8] k (fun kq v8 w' => ∃ (x8_1 : Int), v8 = .int .i64 x8_1 ∧ Aside0 (slices_Index_int_int.l0 kq l0 a1 (l0.length : Int) x8_1 = some r) ∧ Aside0 (kq ≤ k) ∧ Drawn0 w w')
 case atStart => exact ⟨(0), zt, H', ⟨Nat.le_refl _⟩, by repeat (first | exact Drawn0.refl _ | apply Drawn0.step)⟩
 case round =>
  clear H'; (try clear c1); (try clear p2); obtain ⟨x8_1, rfl, HA, HK1, ⟨m1, rfl⟩⟩ := hrel
  cases gk with
  | zero => exact absurd HA.out (by simp [slices_Index_int_int.l0])
  | succ k1 =>
   have H := HA.out; clear HA; simp only [slices_Index_int_int.l0] at H
   by_cases c3 : x8_1 < (l0.length : Int)
   ·rw [if_pos c3] at H
    have c3b0 := dT c3; clear c3
    by_cases c4 : 0 ≤ x8_1
    ·rw [if_pos c4] at H
     have c4b0 := dT c4; clear c4
     by_cases c5 : x8_1 < (l0.length : Int)
     ·rw [if_pos c5] at H
      have c5b0 := dT c5; clear c5
      by_cases c6 : a1 = (rd l0 x8_1)
      ·rw [if_pos c6] at H
       have c6b0 : (a1 == (rd l0 x8_1)) = true := beq_iff_eq.mpr c6
       have c6b1 : (a1 != (rd l0 x8_1)) = false := bne_eq_false_iff_eq.mpr c6
       clear c6; obtain rfl := sI H
       have p399 : 0 ≤ (x8_1 : Int) := zd
       have q399 : x8_1 < (l0.length : Int) := zd
       obtain ⟨ad399, e399, hx399_0⟩ := tI HR0.out x8_1 p399 q399
       cases e399
       replace p399 := eq_true p399; replace q399 := eq_true q399
       go_wp2
       go_ret
       exact ⟨by first | rfl | (simp; done) | (simp [*]; done), by repeat (first | exact Drawn0.refl _ | apply Drawn0.step)⟩
      rw [if_neg c6] at H
      have c6b0 : (a1 == (rd l0 x8_1)) = false := beq_eq_false_iff_ne.mpr c6
      have c6b1 : (a1 != (rd l0 x8_1)) = true := bne_iff_ne.mpr c6
      have H' := A0_ H; clear H
      have p399 : 0 ≤ (x8_1 : Int) := zd
      have q399 : x8_1 < (l0.length : Int) := zd
      obtain ⟨ad399, e399, hx399_0⟩ := tI HR0.out x8_1 p399 q399
      cases e399
      replace p399 := eq_true p399; replace q399 := eq_true q399
      go_wp2
      go_roundg k1
      case measure => have := HK1.out; omega
      case rel => exact ⟨(wrap64 (x8_1 + 1)), zt, H', ⟨by have := HK1.out; omega⟩, by repeat (first | exact Drawn0.refl _ | apply Drawn0.step)⟩
     rw [if_neg c5] at H
     exact absurd H (by simp)
    rw [if_neg c4] at H
    exact absurd H (by simp)
   rw [if_neg c3] at H; have c3b0 := dF c3; clear c3; obtain rfl := sI H
   go_wp2
   go_ret
   exact ⟨by first | rfl | (simp; done) | (simp [*]; done), by repeat (first | exact Drawn0.refl _ | apply Drawn0.step)⟩

/-! ### slices_Contains_int_int: function 109 -/
def slices_Contains_int_int.f (k : Nat) (l0 : List Int) (a1 : Int) : Option (Bool) := (slices_Index_int_int.f k l0 a1).bind fun t400 => (some (decide (t400 ≥ 0)))
set_option maxHeartbeats 8000000 in
set_option maxRecDepth 100000 in
theorem slices_Contains_int_int.calls (k : Nat) (A0 : Option Addr) (c0 : Nat) (l0 : List Int) (a1 : Int) (r : Bool) (w : World) (hr0 : Kd.C (Kd.int .i64) w A0 l0.length l0) (hc0 : l0.length ≤ c0) (h : slices_Contains_int_int.f k l0 a1 = some r) :
    Calls Try.prog 109 #[.slice A0 l0.length c0, .int .i64 a1] w fun e w' => e = .returned (.bool r) ∧ Drawn0 w w' := by
 have HR0 := A0_ hr0; have HC0 := A0_ hc0; clear hr0 hc0
 have H : ((slices_Index_int_int.f k l0 a1).bind fun t400 => (some (decide (t400 ≥ 0)))) = some r := h
 clear h; obtain ⟨t400, A3, H⟩ := zbind H; obtain rfl := sI H
 go_enter Try.func109, Try.ntmps109
 go_wp2_with (first | ((with_reducible refine gC (f := 115) rfl ?_); refine zJ (some 7) Try.func115 #[.slice A0 l0.length c0, .int .i64 a1] ?_; (with_reducible refine (slices_Index_int_int.calls k _ _ l0 a1 t400 _ ?side1 ?side2 A3.out).mono ?_); (case side1 => repeat (first | exact HR0.out | (with_reducible refine cA ?_ _) | (with_reducible refine cN ?_ _) | (with_reducible refine cD ?_))); (case side2 => exact HC0.out); rintro e w' ⟨rfl, ⟨nd, rfl⟩⟩; refine ⟨_, rfl, ?_⟩))
 go_ret
 exact ⟨by first | rfl | (simp; done) | (simp [*]; done), by repeat (first | exact Drawn0.refl _ | apply Drawn0.step)⟩

end Go.Proofs.Ytmegggomhjgehaa.PFnDeck
