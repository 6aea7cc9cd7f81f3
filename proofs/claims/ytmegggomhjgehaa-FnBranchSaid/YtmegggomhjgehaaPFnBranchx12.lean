-- Made by a program of this session (wip/tools) out of the loaded program; not trusted: Lean checks it.
import Derived.Test.YtmegggomhjgehaaPFnBranchx0
import Derived.Test.YtmegggomhjgehaaPFnBranchx7
import Derived.Test.YtmegggomhjgehaaPFnBranchx8
import Derived.Test.YtmegggomhjgehaaPFnBranchx11
-- packed
namespace Go.Proofs.Ytmegggomhjgehaa.PFnBranch
open Go.RowKit Go.Proofs.YtmegggomhjgehaaW.PrintWords Go.Proofs.YtmegggomhjgehaaW.PrintLast Go.Proofs.YtmegggomhjgehaaW.PrintMore
attribute [local go_sem] max2_int min2_int max_two min_two max_three min_three max_four min_four   -- for this text's walks alone
set_option linter.unusedVariables false
set_option linter.unusedSimpArgs false

/-! ### spec_l6Open: function 52 -/
def spec_l6Open.f (l0 : List Int) : Option (List Int × Int) := if (l0.length : Int) > 2000 then (if 2000 ≤ (l0.length : Int) then (some (l0.take 2000, 0)) else (none)) else (some (l0, 0))
set_option maxHeartbeats 8000000 in
set_option maxRecDepth 100000 in
theorem spec_l6Open.calls (A0 : Option Addr) (c0 : Nat) (l0 : List Int) (r1 : List Int) (r2 : Int) (w0 w : World) (hB : Below w0.heap.size w0 w) (hr0 : Kd.C (Kd.int .u8) w0 A0 l0.length l0) (hc0 : l0.length ≤ c0) (h : spec_l6Open.f l0 = some (r1, r2)) :
    Calls Try.prog 52 #[.slice A0 l0.length c0] w fun e w' => ∃ g_ : Nat, e = .returned (.pointer (some ⟨g_, 0, none⟩)) ∧ IsS82 w0 w' g_ r1 r2 ∧ Below w0.heap.size w0 w' ∧ Below w.heap.size w w' := by
 have hu82 := Try.underlying82; have HR0 := A0_ hr0; have HC0 := A0_ hc0; clear hr0 hc0
 have HBW := A0_ (Below.refl w.heap.size w)
 have HW0 := A0_ hB.size; have HB := A0_ hB; clear hB
 have H : (if (l0.length : Int) > 2000 then (if 2000 ≤ (l0.length : Int) then (some (l0.take 2000, 0)) else (none)) else (some (l0, 0))) = some (r1, r2) := h
 clear h
 by_cases c2 : (l0.length : Int) > 2000
 ·rw [if_pos c2] at H
  have c2b0 : decide (2000 < (l0.length : Int)) = true := dT c2
  have c2b1 : decide (2000 < l0.length) = true := dT (by omega)
  clear c2
  by_cases c3 : 2000 ≤ (l0.length : Int)
  ·rw [if_pos c3] at H
   have c3b0 := eq_true c3; have c3b1 := dT c3; clear c3; simp only [Option.some.injEq, Prod.mk.injEq] at H; obtain ⟨rfl, rfl⟩ := H; obtain ⟨i04, hi04, _, hsz4, _⟩ := info_parts info5
   obtain ⟨hcut4, hA4, hC4⟩ := print_take_of (P := Try.prog) (Value.int .u8) 0 22 5 .i64 Try.underlying22 hi04 hsz4 A0 c0 l0 2000 (by omega) (zd) HC0.out
   have HR487 := A0_ (Kd.C_of_reads (h1 := fun _ => rfl) (hA4 _ (Kd.reads_of_C HR0.out)))
   have HC487 := A0_ hC4; clear hA4 hC4 hi04 hsz4
   go_enter Try.func52, Try.ntmps52
   go_wp2_with (first | ((with_reducible refine gD (N := 10) rfl ?_); refine zX (N := 10) (cs := #[.slice A0 (l0.take 2000).length c0, .int .i64 0]) (t := 82) ?_; intro gb488 hg w5 hbox hb; replace HB := zB HB hb; have BK488 := A0_ (hbox); have GW488 := A0_ ((by rw [hg]; exact (bZ (by repeat (first | (with_reducible first | exact HBW.out | apply bA | apply bN | apply bD) | exact HBW.out))) : w.heap.size ≤ gb488)); have GE488 := A0_ ((Nat.le_trans HW0.out (by rw [hg]; exact (bZ (by repeat (first | (with_reducible first | exact HBW.out | apply bA | apply bN | apply bD) | exact HBW.out))) : w.heap.size ≤ gb488) : w0.heap.size ≤ gb488)); replace HBW := A0_ (bT HBW.out hb); clear hb hbox hg))
   go_ret
   exact ⟨_, rfl, (show IsS82 w0 _ gb488 (l0.take 2000) 0 from ⟨_, _, zK_ BK488, GE488.out, HR487.out⟩), zB_ HB, by repeat (first | (with_reducible first | exact HBW.out | apply bA | apply bN | apply bD | refine bS ?_ GW488.out) | exact HBW.out)⟩
  rw [if_neg c3] at H
  exact absurd H (by simp)
 rw [if_neg c2] at H
 have c2b0 : decide (2000 < (l0.length : Int)) = false := dF c2
 have c2b1 : decide (2000 < l0.length) = false := dF (by omega)
 clear c2; simp only [Option.some.injEq, Prod.mk.injEq] at H; obtain ⟨rfl, rfl⟩ := H
 go_enter Try.func52, Try.ntmps52
 go_wp2_with (first | ((with_reducible refine gD (N := 10) rfl ?_); refine zX (N := 10) (cs := #[.slice A0 l0.length c0, .int .i64 0]) (t := 82) ?_; intro gb489 hg w6 hbox hb; replace HB := zB HB hb; have BK489 := A0_ (hbox); have GW489 := A0_ ((by rw [hg]; exact (bZ (by repeat (first | (with_reducible first | exact HBW.out | apply bA | apply bN | apply bD) | exact HBW.out))) : w.heap.size ≤ gb489)); have GE489 := A0_ ((Nat.le_trans HW0.out (by rw [hg]; exact (bZ (by repeat (first | (with_reducible first | exact HBW.out | apply bA | apply bN | apply bD) | exact HBW.out))) : w.heap.size ≤ gb489) : w0.heap.size ≤ gb489)); replace HBW := A0_ (bT HBW.out hb); clear hb hbox hg))
 go_ret
 exact ⟨_, rfl, (show IsS82 w0 _ gb489 l0 0 from ⟨_, _, zK_ BK489, GE489.out, HR0.out⟩), zB_ HB, by repeat (first | (with_reducible first | exact HBW.out | apply bA | apply bN | apply bD | refine bS ?_ GW489.out) | exact HBW.out)⟩

/-! ### spec_DrawCoverBranch: function 23 -/
def spec_DrawCoverBranch.f (k : Nat) (l0 : List Int) : Option (List Int × List Int × Int × (List (List Int))) := (spec_l6Open.f l0).bind fun bt491 => ((spec_l92Cover.f k bt491.1 bt491.2).bind fun bt494 => (some (bt494.1, bt494.2.1, bt494.2.2.1, bt494.2.2.2.1)))
set_option maxHeartbeats 8000000 in
set_option maxRecDepth 100000 in
theorem spec_DrawCoverBranch.calls (k : Nat) (A0 : Option Addr) (c0 : Nat) (l0 : List Int) (r1 : List Int) (r2 : List Int) (r3 : Int) (r4 : List (List Int)) (w : World) (hr0 : Kd.C (Kd.int .u8) w A0 l0.length l0) (hc0 : l0.length ≤ c0) (h : spec_DrawCoverBranch.f k l0 = some (r1, r2, r3, r4)) :
    Calls Try.prog 23 #[.slice A0 l0.length c0] w fun e w' => ∃ v0_ v1_ v3_ : Value, e = .returned (.tuple #[.agg #[v0_, v1_], .int .i64 r3, v3_]) ∧ Kd.Q (Kd.int .i64) 3 w' w.heap.size (fun k_ => some k_ ≠ (v1_ : Value).ownBlock) v0_ r1 ∧ Kd.R (Kd.int .i64) 3 w' w.heap.size (fun k_ => some k_ ≠ (v0_ : Value).ownBlock) v1_ r2 ∧ Kd.S (Kd.slice 3 (Kd.int .i64)) 23 w' w.heap.size (fun k_ => some k_ ≠ (v0_ : Value).ownBlock ∧ some k_ ≠ (v1_ : Value).ownBlock) v3_ r4 ∧ Below w.heap.size w w' := by
 have hu25 := Try.underlying25; have HR0 := A0_ hr0; have HC0 := A0_ hc0; clear hr0 hc0
 have HB := A0_ (Below.refl w.heap.size w)
 have H : ((spec_l6Open.f l0).bind fun bt491 => ((spec_l92Cover.f k bt491.1 bt491.2).bind fun bt494 => (some (bt494.1, bt494.2.1, bt494.2.2.1, bt494.2.2.2.1)))) = some (r1, r2, r3, r4) := h
 clear h; obtain ⟨⟨t491, t492⟩, A2, H⟩ := zbind H; dsimp only at H; obtain ⟨⟨t494, t497, t500, t501, t504⟩, A3, H⟩ := zbind H; dsimp only at H; simp only [Option.some.injEq, Prod.mk.injEq] at H; obtain ⟨rfl, rfl, rfl, rfl⟩ := H
 go_enter Try.func23, Try.ntmps23
 go_wp2_with (first | ((with_reducible refine gD (N := 2) rfl ?_); refine zX (N := 2) (cs := #[.slice none 0 0, .slice none 0 0]) (t := 25) ?_; intro gb490 hg w4 hbox hb; have BK490 := A0_ (hbox); have GW490 := zG hg HB; have GE490 := zG hg HB; replace HB := zB HB hb; clear hb hbox hg) | ((with_reducible refine gC (f := 52) rfl ?_); refine zJ (some 6) Try.func52 #[.slice A0 l0.length c0] ?_; (with_reducible refine (spec_l6Open.calls _ _ l0 t491 t492 w _ ?side1 ?side2 ?side3 A2.out).mono ?_); (case side1 => repeat (first | (with_reducible first | exact HB.out | apply bA | apply bN | apply bD | refine bS ?_ GE490.out) | exact HB.out)); (case side2 => exact HR0.out); (case side3 => exact HC0.out); rintro e w5 ⟨g493, rfl, hi, hb, hb2⟩; refine ⟨_, rfl, ?_⟩; replace HB := A0_ (hb); have HI493 := A0_ (hi); have NB493_490 := A0_ (IsS82.ne_blk hi (kB (g := gb490) (o := .cells #[.slice none 0 0, .slice none 0 0] 25 (0, 0)) (zK_ BK490) hb2) (by decide)); have NB490_493 := A0_ (Ne.symm (IsS82.ne_blk hi (kB (g := gb490) (o := .cells #[.slice none 0 0, .slice none 0 0] 25 (0, 0)) (zK_ BK490) hb2) (by decide))); replace BK490 := A0_ (kB (g := gb490) (o := .cells #[.slice none 0 0, .slice none 0 0] 25 (0, 0)) (zK_ BK490) hb2); (try clear hb)) | ((with_reducible refine gC (f := 51) rfl ?_); refine zJ (some 7) Try.func51 #[.pointer (some ⟨g493, 0, none⟩)] ?_; (with_reducible refine (spec_l92Cover.calls k g493 t491 t492 t494 t497 t500 t501 t504 w _ ?side1 ?side2 A3.out).mono ?_); (case side1 => repeat (first | (with_reducible first | exact HI493.out | apply IsS82.alloc | apply IsS82.drewN | apply IsS82.drew | apply IsS82.set_1 | refine IsS82.far ?_ NB493_490.out _) | exact HI493.out)); (case side2 => repeat (first | (with_reducible first | exact HB.out | apply bA | apply bN | apply bD | refine bS ?_ (IsS82.ge HI493.out) | refine bS ?_ GE490.out) | exact HB.out)); rintro e w6 ⟨v495, v498, v502, rfl, ho0, ho1, ho2, hi, hb, hk⟩; refine ⟨_, rfl, ?_⟩; replace BK490 := A0_ (KeepBut.blk hk (g' := gb490) (o := .cells #[.slice none 0 0, .slice none 0 0] 25 (0, 0)) (zK_ BK490) NB490_493.out (by simp)); have HO496 := A0_ (Kd.Q_lower ho0 (bZ (by repeat (first | (with_reducible first | exact HB.out | apply bA | apply bN | apply bD | refine bS ?_ (IsS82.ge HI493.out) | refine bS ?_ GE490.out) | exact HB.out)))); have HO499 := A0_ (rL ho1 (bZ (by repeat (first | (with_reducible first | exact HB.out | apply bA | apply bN | apply bD | refine bS ?_ (IsS82.ge HI493.out) | refine bS ?_ GE490.out) | exact HB.out)))); have HO503 := A0_ (Kd.S_lower ho2 (bZ (by repeat (first | (with_reducible first | exact HB.out | apply bA | apply bN | apply bD | refine bS ?_ (IsS82.ge HI493.out) | refine bS ?_ GE490.out) | exact HB.out)))); replace HB := A0_ (hb); replace HI493 := A0_ (hi); (try clear hb); (try clear ho0); (try clear ho1); (try clear ho2); obtain ⟨Ao7, co7, eo7, _⟩ := Kd.Q_slice HO496.out; subst eo7; have hnb8 := NB490_493.out; have hnc8 := NB493_490.out; have hcz9_0 := zc0 BK490; have hcz9_1 := zc1 BK490; have hfz9_0 := kF BK490.out 0; have hfz9_1 := kF BK490.out 1; obtain ⟨Ao10, co10, eo10⟩ := rS HO499.out; subst eo10))
 refine bodyPost_ret (results_ctt rfl _ _ gb490 25 #[.slice Ao7 t494.length co7, .slice Ao10 t497.length co10] (0, 0) _ rfl (by (with_reducible repeat (first | refine kN ?_ _ | refine kD ?_ | refine kA ?_ _)); refine blk_put (cs := #[.slice Ao7 t494.length co7, .slice none 0 0]) ?_ 1 _ rfl; (with_reducible repeat (first | refine kN ?_ _ | refine kD ?_ | refine kA ?_ _)); refine blk_put (cs := #[.slice none 0 0, .slice none 0 0]) ?_ 0 _ rfl; (with_reducible repeat (first | refine kN ?_ _ | refine kD ?_ | refine kA ?_ _)); exact BK490.out) Try.underlying25 rfl (by kernel_rfl)) rfl ?_
 exact ⟨_, _, _, by first | rfl | (simp [*] <;> rfl), by (with_reducible repeat (first | apply Kd.Q_alloc | apply Kd.Q_drewN | apply Kd.Q_drew)); exact Kd.Q_mono (Kd.Q_far (p := ⟨gb490, 1, none⟩) (Kd.Q_far (p := ⟨gb490, 0, none⟩) (Kd.Q_types HO496.out BK490.out (by decide)) (fun _ hk => hk.2) (.slice Ao7 t494.length co7)) (fun _ hk => hk.2) (.slice Ao10 t497.length co10)) (fun _ hk => hk.1), zF HO499 BK490 (.slice Ao7 t494.length co7) (.slice Ao10 t497.length co10) 0 1, by (with_reducible repeat (first | apply sA | apply sN | apply sD)); exact sM (Kd.S_far (p := ⟨gb490, 1, none⟩) (Kd.S_far (p := ⟨gb490, 0, none⟩) (Kd.S_types HO503.out BK490.out (by decide)) (fun _ hk => hk.2) (.slice Ao7 t494.length co7)) (fun _ hk => hk.2) (.slice Ao10 t497.length co10)) (fun _ hk => ⟨hk.1.1, hk.1.2⟩), by repeat (first | (with_reducible first | exact HB.out | apply bA | apply bN | apply bD | refine bS ?_ (IsS82.ge HI493.out) | refine bS ?_ GE490.out) | exact HB.out)⟩

/-! ### spec_VoltageValid: function 56 -/
mutual
def spec_VoltageValid.j0 : Nat → Int → List (List Int) → Bool → Option (Bool)
  | 0, _, _, _ => none
  | k + 1, x1, x2, x32 => if x32 = true then (some false) else (spec_VoltageValid.l0 k x1 x2 0)
def spec_VoltageValid.l0 : Nat → Int → List (List Int) → Int → Option (Bool)
  | 0, _, _, _ => none
  | k + 1, x1, x2, x7 => if x7 < (x2.length : Int) then (if 0 ≤ x7 then ((spec_PermValid.f k (rd_L1 x2 x7)).bind fun t509 => (if t509 = true then (if ((rd_L1 x2 x7).length : Int) = x1 then (spec_VoltageValid.l0 k x1 x2 (wrap64 (x7 + 1))) else (some false)) else (some false))) else (none)) else (some true)
end
def spec_VoltageValid.f (k : Nat) (l0_0 : List Int) (l0_1 : List Int) (a1 : Int) (l2 : List (List Int)) : Option (Bool) := (spec_MapValid.f k l0_0 l0_1).bind fun t506 => (if t506 = true then ((spec_l6In.f a1 1 6).bind fun t507 => (if t507 = true then (if (wrap64 (a1 * (l0_0.length : Int))) > 12 then (spec_VoltageValid.j0 k a1 l2 true) else (spec_VoltageValid.j0 k a1 l2 ((l2.length : Int) != (wrap64 ((l0_1.length : Int) / 2))))) else (spec_VoltageValid.j0 k a1 l2 true))) else (spec_VoltageValid.j0 k a1 l2 true))
set_option maxHeartbeats 8000000 in
set_option maxRecDepth 100000 in
theorem spec_VoltageValid.calls (k : Nat) (A0_0 : Option Addr) (c0_0 : Nat) (l0_0 : List Int) (A0_1 : Option Addr) (c0_1 : Nat) (l0_1 : List Int) (a1 : Int) (A2 : Option Addr) (c2 : Nat) (l2 : List (List Int)) (r : Bool) (w : World) (hr0_0 : Kd.C (Kd.int .i64) w A0_0 l0_0.length l0_0) (hc0_0 : l0_0.length ≤ c0_0) (hr0_1 : Kd.C (Kd.int .i64) w A0_1 l0_1.length l0_1) (hc0_1 : l0_1.length ≤ c0_1) (hr2 : Kd.C (Kd.slice 3 (Kd.int .i64)) w A2 l2.length l2) (hc2 : l2.length ≤ c2) (h : spec_VoltageValid.f k l0_0 l0_1 a1 l2 = some r) :
    Calls Try.prog 56 #[.agg #[.slice A0_0 l0_0.length c0_0, .slice A0_1 l0_1.length c0_1], .int .i64 a1, .slice A2 l2.length c2] w fun e w' => e = .returned (.bool r) ∧ Below w.heap.size w w' := by
 have hu25 := Try.underlying25; have HR0_0 := A0_ hr0_0; have HC0_0 := A0_ hc0_0; clear hr0_0 hc0_0; have HR0_1 := A0_ hr0_1; have HC0_1 := A0_ hc0_1; clear hr0_1 hc0_1; have HR2 := A0_ hr2; have HC2 := A0_ hc2; clear hr2 hc2
 have HB := A0_ (Below.refl w.heap.size w)
 have H : ((spec_MapValid.f k l0_0 l0_1).bind fun t506 => (if t506 = true then ((spec_l6In.f a1 1 6).bind fun t507 => (if t507 = true then (if (wrap64 (a1 * (l0_0.length : Int))) > 12 then (spec_VoltageValid.j0 k a1 l2 true) else (spec_VoltageValid.j0 k a1 l2 ((l2.length : Int) != (wrap64 ((l0_1.length : Int) / 2))))) else (spec_VoltageValid.j0 k a1 l2 true))) else (spec_VoltageValid.j0 k a1 l2 true))) = some r := h
 clear h; have HC4 := A0_ H; clear H
 go_enter Try.func56, Try.ntmps56
 go_upto_region 1 with (first | ((with_reducible refine gD (N := 3) rfl ?_); refine zX (N := 3) (cs := #[.slice A0_0 l0_0.length c0_0, .slice A0_1 l0_1.length c0_1]) (t := 25) ?_; intro gb505 hg w5 hbox hb; have BK505 := A0_ (hbox); have GW505 := zG hg HB; have GE505 := zG hg HB; replace HB := zB HB hb; clear hb hbox hg))
 (try simp only [Act.put, List.setIfInBounds_toArray, List.set_cons_zero, List.set_cons_succ])
 go_cut [32] (fun v32 wc => ∃ (kq : Nat) (x32_3 : Bool), v32 = .bool x32_3 ∧ Aside0 (spec_VoltageValid.j0 kq a1 l2 x32_3 = some r) ∧ Aside0 (kq ≤ k) ∧ Aside0 (wc.heap[gb505]? = some (.cells #[(.slice A0_0 l0_0.length c0_0), (.slice A0_1 l0_1.length c0_1)] 25 (0, 0))) ∧ Aside0 (Below w.heap.size w wc))
 case first =>
  have H := HC4.out; clear HC4; obtain ⟨t506, A6, H⟩ := zbind H
  by_cases c7 : t506 = true
  ·subst c7
   rw [if_pos rfl] at H; obtain ⟨t507, A8, H⟩ := zbind H
   by_cases c9 : t507 = true
   ·subst c9
    rw [if_pos rfl] at H
    by_cases c10 : (wrap64 (a1 * (l0_0.length : Int))) > 12
    ·rw [if_pos c10] at H
     have c10b0 : decide (12 < (wrap64 (a1 * (l0_0.length : Int)))) = true := dT c10
     clear c10
     (first | rw [c10b0] | (simp only [i64_w, i32_w]; rw [c10b0]) | skip)
     have H' := A0_ H; clear H; have hcz11_0 := zc0 BK505; have hcz11_1 := zc1 BK505; have hfz11_0 := kF BK505.out 0; have hfz11_1 := kF BK505.out 1
     go_wp2_with (first | ((with_reducible refine gC (f := 57) rfl ?_); refine zJ (some 9) Try.func57 #[.agg #[.slice A0_0 l0_0.length c0_0, .slice A0_1 l0_1.length c0_1]] ?_; (with_reducible refine (spec_MapValid.calls k _ _ l0_0 _ _ l0_1 true _ ?side1 ?side2 ?side3 ?side4 A6.out).mono ?_); (case side1 => exact zC HR0_0 HB); (case side2 => exact HC0_0.out); (case side3 => exact zC HR0_1 HB); (case side4 => exact HC0_1.out); rintro e w12 ⟨rfl, hb⟩; refine ⟨_, rfl, ?_⟩; replace BK505 := zK BK505 hb; replace HB := zB HB hb; (try clear hb)) | (go_at_call 101; (with_reducible refine (spec_l6In.calls a1 1 6 true _ A8.out).mono ?_); rintro e w' ⟨rfl, ⟨nd, rfl⟩⟩; have hcz13_0 := zc0 BK505; have hcz13_1 := zc1 BK505; have hfz13_0 := kF BK505.out 0; have hfz13_1 := kF BK505.out 1))
     go_meet
     case rel => exact ⟨_, (true), zt, H', zo, ⟨zK_ BK505⟩, ⟨zB_ HB⟩⟩
    rw [if_neg c10] at H
    have c10b0 : decide (12 < (wrap64 (a1 * (l0_0.length : Int)))) = false := dF c10
    clear c10
    (first | rw [c10b0] | (simp only [i64_w, i32_w]; rw [c10b0]) | skip)
    have H' := A0_ H; clear H; have hcz14_0 := zc0 BK505; have hcz14_1 := zc1 BK505; have hfz14_0 := kF BK505.out 0; have hfz14_1 := kF BK505.out 1
    go_wp2_with (first | ((with_reducible refine gC (f := 57) rfl ?_); refine zJ (some 9) Try.func57 #[.agg #[.slice A0_0 l0_0.length c0_0, .slice A0_1 l0_1.length c0_1]] ?_; (with_reducible refine (spec_MapValid.calls k _ _ l0_0 _ _ l0_1 true _ ?side1 ?side2 ?side3 ?side4 A6.out).mono ?_); (case side1 => exact zC HR0_0 HB); (case side2 => exact HC0_0.out); (case side3 => exact zC HR0_1 HB); (case side4 => exact HC0_1.out); rintro e w15 ⟨rfl, hb⟩; refine ⟨_, rfl, ?_⟩; replace BK505 := zK BK505 hb; replace HB := zB HB hb; (try clear hb)) | (go_at_call 101; (with_reducible refine (spec_l6In.calls a1 1 6 true _ A8.out).mono ?_); rintro e w' ⟨rfl, ⟨nd, rfl⟩⟩; have hcz16_0 := zc0 BK505; have hcz16_1 := zc1 BK505; have hfz16_0 := kF BK505.out 0; have hfz16_1 := kF BK505.out 1))
    go_meet
    case rel => exact ⟨_, (((l2.length : Int) != (wrap64 ((l0_1.length : Int) / 2)))), zt, H', zo, ⟨zK_ BK505⟩, ⟨zB_ HB⟩⟩
   replace c9 := Bool.eq_false_iff.mpr c9; subst c9
   rw [if_neg (show ¬ (false = true) by decide)] at H
   have H' := A0_ H; clear H; have hcz17_0 := zc0 BK505; have hcz17_1 := zc1 BK505; have hfz17_0 := kF BK505.out 0; have hfz17_1 := kF BK505.out 1
   go_wp2_with (first | ((with_reducible refine gC (f := 57) rfl ?_); refine zJ (some 9) Try.func57 #[.agg #[.slice A0_0 l0_0.length c0_0, .slice A0_1 l0_1.length c0_1]] ?_; (with_reducible refine (spec_MapValid.calls k _ _ l0_0 _ _ l0_1 true _ ?side1 ?side2 ?side3 ?side4 A6.out).mono ?_); (case side1 => exact zC HR0_0 HB); (case side2 => exact HC0_0.out); (case side3 => exact zC HR0_1 HB); (case side4 => exact HC0_1.out); rintro e w18 ⟨rfl, hb⟩; refine ⟨_, rfl, ?_⟩; replace BK505 := zK BK505 hb; replace HB := zB HB hb; (try clear hb)) | (go_at_call 101; (with_reducible refine (spec_l6In.calls a1 1 6 false _ A8.out).mono ?_); rintro e w' ⟨rfl, ⟨nd, rfl⟩⟩))
   go_meet
   case rel => exact ⟨_, (true), zt, H', zo, ⟨zK_ BK505⟩, ⟨zB_ HB⟩⟩
  replace c7 := Bool.eq_false_iff.mpr c7; subst c7
  rw [if_neg (show ¬ (false = true) by decide)] at H
  have H' := A0_ H; clear H; have hcz19_0 := zc0 BK505; have hcz19_1 := zc1 BK505; have hfz19_0 := kF BK505.out 0; have hfz19_1 := kF BK505.out 1
  go_wp2_with (first | ((with_reducible refine gC (f := 57) rfl ?_); refine zJ (some 9) Try.func57 #[.agg #[.slice A0_0 l0_0.length c0_0, .slice A0_1 l0_1.length c0_1]] ?_; (with_reducible refine (spec_MapValid.calls k _ _ l0_0 _ _ l0_1 false _ ?side1 ?side2 ?side3 ?side4 A6.out).mono ?_); (case side1 => exact zC HR0_0 HB); (case side2 => exact HC0_0.out); (case side3 => exact zC HR0_1 HB); (case side4 => exact HC0_1.out); rintro e w20 ⟨rfl, hb⟩; refine ⟨_, rfl, ?_⟩; replace BK505 := zK BK505 hb; replace HB := zB HB hb; (try clear hb)))
  go_meet
  case rel => exact ⟨_, (true), zt, H', zo, ⟨zK_ BK505⟩, ⟨zB_ HB⟩⟩
 case rest =>
  clear HC4; (try clear c1); (try clear c2); (try clear p2); (try clear c5); (try clear p6); (try clear c7); (try clear c9); (try clear c10); (try clear c10b0); (try clear hcz11_0); (try clear hcz11_1); (try clear hcz13_0); (try clear hcz13_1); (try clear hcz14_0); (try clear hcz14_1); (try clear hcz16_0); (try clear hcz16_1); (try clear hcz17_0); (try clear hcz17_1); (try clear hcz19_0); (try clear hcz19_1); (try clear hfz11_0); (try clear hfz11_1); (try clear hfz13_0); (try clear hfz13_1); (try clear hfz14_0); (try clear hfz14_1); (try clear hfz16_0); (try clear hfz16_1); (try clear hfz17_0); (try clear hfz17_1); (try clear hfz19_0); (try clear hfz19_1); obtain ⟨kq, x32_3, rfl, HA, HJ3, BK505, HB⟩ := hcut
  cases kq with
  | zero => exact absurd HA.out (by simp [spec_VoltageValid.j0])
  | succ kj3 =>
   have H := HA.out; clear HA; simp only [spec_VoltageValid.j0] at H
   by_cases c21 : x32_3 = true
   ·subst c21
    rw [if_pos rfl] at H; obtain rfl := sI H
    go_wp2
    go_ret
    exact ⟨by first | rfl | (simp [*] <;> rfl), zB_ HB⟩
   replace c21 := Bool.eq_false_iff.mpr c21; subst c21
   rw [if_neg (show ¬ (false = true) by decide)] at H
   have H' := A0_ H; clear H
   go_wp2
   go_loopg [7] kj3 (fun kq v7 w' => ∃ (x7_2 : Int), v7 = .int .i64 x7_2 ∧ Aside0 (spec_VoltageValid.l0 kq a1 l2 x7_2 = some r) ∧ Aside0 (kq ≤ kj3) ∧ Aside0 (w'.heap[gb505]? = some (.cells #[(.slice A0_0 l0_0.length c0_0), (.slice A0_1 l0_1.length c0_1)] 25 (0, 0))) ∧ Aside0 (Below w.heap.size w w'))
   case atStart => exact ⟨(0), zt, H', ⟨Nat.le_refl _⟩, ⟨zK_ BK505⟩, ⟨zB_ HB⟩⟩
   case round =>
    clear H'; (try clear c1); (try clear c2); (try clear p2); (try clear c5); (try clear p6); (try clear c7); (try clear c9); (try clear c10); (try clear c10b0); (try clear c21); (try clear hcz11_0); (try clear hcz11_1); (try clear hcz13_0); (try clear hcz13_1); (try clear hcz14_0); (try clear hcz14_1); (try clear hcz16_0); (try clear hcz16_1); (try clear hcz17_0); (try clear hcz17_1); (try clear hcz19_0); (try clear hcz19_1); (try clear hfz11_0); (try clear hfz11_1); (try clear hfz13_0); (try clear hfz13_1); (try clear hfz14_0); (try clear hfz14_1); (try clear hfz16_0); (try clear hfz16_1); (try clear hfz17_0); (try clear hfz17_1); (try clear hfz19_0); (try clear hfz19_1); (try clear p2); (try clear p6); obtain ⟨x7_2, rfl, HA, HK2, BK505, HB⟩ := hrel
    cases gk with
    | zero => exact absurd HA.out (by simp [spec_VoltageValid.l0])
    | succ k2 =>
     have H := HA.out; clear HA; simp only [spec_VoltageValid.l0] at H
     by_cases c22 : x7_2 < (l2.length : Int)
     ·rw [if_pos c22] at H
      have c22b0 := dT c22; clear c22
      by_cases c23 : 0 ≤ x7_2
      ·rw [if_pos c23] at H
       have c23b0 := dT c23; clear c23; obtain ⟨t509, A24, H⟩ := zbind H
       by_cases c25 : t509 = true
       ·subst c25
        rw [if_pos rfl] at H
        by_cases c26 : ((rd_L1 l2 x7_2).length : Int) = a1
        ·rw [if_pos c26] at H
         have c26b0 : (((rd_L1 l2 x7_2).length : Int) == a1) = true := beq_iff_eq.mpr c26
         have c26b1 : (((rd_L1 l2 x7_2).length : Int) != a1) = false := bne_eq_false_iff_eq.mpr c26
         clear c26; have H' := A0_ H; clear H
         have p508 : 0 ≤ (x7_2 : Int) := zd
         have q508 : x7_2 < (l2.length : Int) := zd
         obtain ⟨ad508, A508_0, c508_0, e508, hx508_0, hl508_0, hi508_0⟩ := at_L1 HR2.out x7_2 p508 q508
         cases e508
         try replace hx508_0 := (HB.out.cell (wL w _ hx508_0)).trans hx508_0
         have HR508_0 := A0_ hi508_0; have HC508_0 := A0_ hl508_0; clear hi508_0 hl508_0; replace p508 := eq_true p508; replace q508 := eq_true q508
         go_wp2_with (first | ((with_reducible refine gC (f := 89) rfl ?_); refine zJ (some 43) Try.func89 #[.slice A508_0 (rd_L1 l2 x7_2).length c508_0] ?_; (with_reducible refine (spec_PermValid.calls k2 _ _ (rd_L1 l2 x7_2) true _ ?side1 ?side2 A24.out).mono ?_); (case side1 => exact zC HR508_0 HB); (case side2 => exact HC508_0.out); rintro e w' ⟨rfl, ⟨nd, rfl⟩⟩; refine ⟨_, rfl, ?_⟩; have p510 : 0 ≤ (x7_2 : Int) := zd; have q510 : x7_2 < (l2.length : Int) := zd; obtain ⟨ad510, A510_0, c510_0, e510, hx510_0, hl510_0, hi510_0⟩ := at_L1 HR2.out x7_2 p510 q510; obtain rfl : ad508 = ad510 := (by injection e510); try replace hx510_0 := (HB.out.cell (wL w _ hx510_0)).trans hx510_0; have HR510_0 := A0_ hi510_0; have HC510_0 := A0_ hl510_0; clear hi510_0 hl510_0; replace p510 := eq_true p510; replace q510 := eq_true q510; have ea_ := sI (hx508_0.symm.trans hx510_0); injection ea_ with ea_ en_ ec_; subst ea_; subst ec_; clear en_))
         go_roundg k2
         case measure => have := HJ3.out; have := HK2.out; omega
         case rel => exact ⟨(wrap64 (x7_2 + 1)), zt, H', ⟨by have := HJ3.out; have := HK2.out; omega⟩, ⟨zK_ BK505⟩, ⟨zB_ HB⟩⟩
        rw [if_neg c26] at H
        have c26b0 : (((rd_L1 l2 x7_2).length : Int) == a1) = false := beq_eq_false_iff_ne.mpr c26
        have c26b1 : (((rd_L1 l2 x7_2).length : Int) != a1) = true := bne_iff_ne.mpr c26
        obtain rfl := sI H
        have p508 : 0 ≤ (x7_2 : Int) := zd
        have q508 : x7_2 < (l2.length : Int) := zd
        obtain ⟨ad508, A508_0, c508_0, e508, hx508_0, hl508_0, hi508_0⟩ := at_L1 HR2.out x7_2 p508 q508
        cases e508
        try replace hx508_0 := (HB.out.cell (wL w _ hx508_0)).trans hx508_0
        have HR508_0 := A0_ hi508_0; have HC508_0 := A0_ hl508_0; clear hi508_0 hl508_0; replace p508 := eq_true p508; replace q508 := eq_true q508
        go_wp2_with (first | ((with_reducible refine gC (f := 89) rfl ?_); refine zJ (some 43) Try.func89 #[.slice A508_0 (rd_L1 l2 x7_2).length c508_0] ?_; (with_reducible refine (spec_PermValid.calls k2 _ _ (rd_L1 l2 x7_2) true _ ?side1 ?side2 A24.out).mono ?_); (case side1 => exact zC HR508_0 HB); (case side2 => exact HC508_0.out); rintro e w' ⟨rfl, ⟨nd, rfl⟩⟩; refine ⟨_, rfl, ?_⟩; have p510 : 0 ≤ (x7_2 : Int) := zd; have q510 : x7_2 < (l2.length : Int) := zd; obtain ⟨ad510, A510_0, c510_0, e510, hx510_0, hl510_0, hi510_0⟩ := at_L1 HR2.out x7_2 p510 q510; obtain rfl : ad508 = ad510 := (by injection e510); try replace hx510_0 := (HB.out.cell (wL w _ hx510_0)).trans hx510_0; have HR510_0 := A0_ hi510_0; have HC510_0 := A0_ hl510_0; clear hi510_0 hl510_0; replace p510 := eq_true p510; replace q510 := eq_true q510; have ea_ := sI (hx508_0.symm.trans hx510_0); injection ea_ with ea_ en_ ec_; subst ea_; subst ec_; clear en_))
        go_ret
        exact ⟨by first | rfl | (simp [*] <;> rfl), zB_ HB⟩
       replace c25 := Bool.eq_false_iff.mpr c25; subst c25
       rw [if_neg (show ¬ (false = true) by decide)] at H
       obtain rfl := sI H
       have p508 : 0 ≤ (x7_2 : Int) := zd
       have q508 : x7_2 < (l2.length : Int) := zd
       obtain ⟨ad508, A508_0, c508_0, e508, hx508_0, hl508_0, hi508_0⟩ := at_L1 HR2.out x7_2 p508 q508
       cases e508
       try replace hx508_0 := (HB.out.cell (wL w _ hx508_0)).trans hx508_0
       have HR508_0 := A0_ hi508_0; have HC508_0 := A0_ hl508_0; clear hi508_0 hl508_0; replace p508 := eq_true p508; replace q508 := eq_true q508
       go_wp2_with (first | ((with_reducible refine gC (f := 89) rfl ?_); refine zJ (some 43) Try.func89 #[.slice A508_0 (rd_L1 l2 x7_2).length c508_0] ?_; (with_reducible refine (spec_PermValid.calls k2 _ _ (rd_L1 l2 x7_2) false _ ?side1 ?side2 A24.out).mono ?_); (case side1 => exact zC HR508_0 HB); (case side2 => exact HC508_0.out); rintro e w' ⟨rfl, ⟨nd, rfl⟩⟩; refine ⟨_, rfl, ?_⟩))
       go_ret
       exact ⟨by first | rfl | (simp [*] <;> rfl), zB_ HB⟩
      rw [if_neg c23] at H
      exact absurd H (by simp)
     rw [if_neg c22] at H; have c22b0 := dF c22; clear c22; obtain rfl := sI H
     go_wp2
     go_ret
     exact ⟨by first | rfl | (simp [*] <;> rfl), zB_ HB⟩

/-! ### spec_l1Cycles: function 71 -/
mutual
def spec_l1Cycles.l0 : Nat → List Int → List (List Int) → List Bool → Int → Option ((List (List Int)))
  | 0, _, _, _, _ => none
  | k + 1, x0, x3, x4, x5 => if x5 < (x0.length : Int) then (if 0 ≤ x5 then (if x5 < (x4.length : Int) then (if rdOf false x4 x5 = true then (spec_l1Cycles.l0 k x0 x3 x4 (wrap64 (x5 + 1))) else (spec_l1Cycles.l1 k x0 x3 x4 x5 (([] : List Int)) x5)) else (none)) else (none)) else (some x3)
def spec_l1Cycles.l1 : Nat → List Int → List (List Int) → List Bool → Int → List Int → Int → Option ((List (List Int)))
  | 0, _, _, _, _, _, _ => none
  | k + 1, x0, x3, x4, x5, x6, x7 => if 0 ≤ x7 then (if x7 < (x4.length : Int) then (if rdOf false x4 x7 = true then (if x3.length < 5864062014805 then (spec_l1Cycles.l0 k x0 (x3 ++ [x6]) x4 (wrap64 (x5 + 1))) else (none)) else (if x6.length < 17592186044416 then (if x7 < (x0.length : Int) then (spec_l1Cycles.l1 k x0 x3 (x4.set (x7 : Int).toNat true) x5 (x6 ++ [x7]) (rd x0 x7)) else (none)) else (none))) else (none)) else (none)
end
def spec_l1Cycles.f (k : Nat) (l0 : List Int) : Option ((List (List Int))) := if 0 ≤ (l0.length : Int) then (if ((l0.length : Int) : Int).toNat ≤ 281474976710656 then (spec_l1Cycles.l0 k l0 (([] : List (List Int))) (List.replicate ((l0.length : Int) : Int).toNat false) 0) else (none)) else (none)
set_option maxHeartbeats 8000000 in
set_option maxRecDepth 100000 in
theorem spec_l1Cycles.calls (k : Nat) (A0 : Option Addr) (c0 : Nat) (l0 : List Int) (r : List (List Int)) (w : World) (hr0 : Kd.C (Kd.int .i64) w A0 l0.length l0) (hc0 : l0.length ≤ c0) (h : spec_l1Cycles.f k l0 = some r) :
    Calls Try.prog 71 #[.slice A0 l0.length c0] w fun e w' => ∃ v0_ : Value, e = .returned (v0_) ∧ Kd.S (Kd.slice 3 (Kd.int .i64)) 23 w' w.heap.size (fun _ => True) v0_ r ∧ Below w.heap.size w w' := by
 have HR0 := A0_ hr0; have HC0 := A0_ hc0; clear hr0 hc0
 have HB := A0_ (Below.refl w.heap.size w)
 have H : (if 0 ≤ (l0.length : Int) then (if ((l0.length : Int) : Int).toNat ≤ 281474976710656 then (spec_l1Cycles.l0 k l0 (([] : List (List Int))) (List.replicate ((l0.length : Int) : Int).toNat false) 0) else (none)) else (none)) = some r := h
 clear h
 obtain ⟨y511, hy511⟩ : ∃ y_ : List (List Int), y_ = (([] : List (List Int))) := ⟨_, rfl⟩
 replace H : (if 0 ≤ (l0.length : Int) then (if ((l0.length : Int) : Int).toNat ≤ 281474976710656 then (spec_l1Cycles.l0 k l0 y511 (List.replicate ((l0.length : Int) : Int).toNat false) 0) else (none)) else (none)) = some r := zH hy511 H
 have Ny511 := A0_ hy511; clear hy511
 by_cases c2 : 0 ≤ (l0.length : Int)
 ·rw [if_pos c2] at H
  have c2b0 := eq_true c2; have c2b1 := dT c2; clear c2
  by_cases c3 : ((l0.length : Int) : Int).toNat ≤ 281474976710656
  ·rw [if_pos c3] at H
   have c3b0 := eq_true c3; have c3b1 := dT c3; clear c3
   obtain ⟨y514, hy514⟩ : ∃ y_ : List Bool, y_ = (List.replicate ((l0.length : Int) : Int).toNat false) := ⟨_, rfl⟩
   replace H : (spec_l1Cycles.l0 k l0 y511 y514 0) = some r := zH hy514 H
   have Ny514 := A0_ hy514; clear hy514; have H' := A0_ H; clear H
   go_enter Try.func71, Try.ntmps71
   go_wp2_with (first | ((with_reducible refine gD (N := 8) rfl ?_); refine Kd.S_lit (Kd.slice 3 (Kd.int .i64)) _ 23 ?hg (N := 8) ?hd (xs := ([] : List (List Int))) (inner := []) (ok := fun _ => True) (okp := fun _ => True) ?hr ?hp (fun _ hk => hk) trivial (Below.refl _ _) (Nat.le_refl _) (by simp) ?_; (case hd => rfl); (case hg => rfl); (case hr => first | (go_simp; done) | (go_simp; rfl)); (case hp => exact (Reps.none _ _)); intro v512 w4 ho5 hb hg_ hnew_; clear hg_ hnew_; (first | rw [← Ny511.out] at ho5 | (simp only [Int.reduceToNat] at ho5; rw [← Ny511.out] at ho5)); have HO513 := A0_ (Kd.S_lower ho5 (bZ (zB_ HB))); replace HB := zB HB hb; clear hb ho5) | ((with_reducible refine gD (N := 11) rfl ?_); refine Kd.R_make Kd.bool _ 4 rfl (N := 11) rfl 60 _ _ rfl (l0.length : Int) rfl rfl Try.underlying60 (.bool false) 1 info4 rfl (by decide) (by omega) false (ok := fun _ => True) (okp := fun _ => True) rfl (fun _ hk => hk) trivial (zd) (Nat.le_trans (Nat.mul_le_mul_right _ (zd : (l0.length : Int).toNat ≤ 281474976710656)) (by omega)) (Below.refl _ _) (Nat.le_refl _) ?_; intro v515 w6 ho7 hb hg_ hnew_; clear hg_ hnew_; (first | rw [← Ny514.out] at ho7 | (simp only [Int.reduceToNat] at ho7; rw [← Ny514.out] at ho7)); replace HO513 := zS HO513 hb; have HO516 := A0_ (rL ho7 (bZ (zB_ HB))); replace HB := zB HB hb; clear hb ho7))
   go_loopg [3, 5] k (fun kq v3 v5 w' => ∃ (x3_1 : List (List Int)) (x4_1 : List Bool) (x5_1 : Int), v5 = .int .i64 x5_1 ∧ Aside0 (spec_l1Cycles.l0 kq l0 x3_1 x4_1 x5_1 = some r) ∧ Aside0 (kq ≤ k) ∧ Aside0 (Kd.S (Kd.slice 3 (Kd.int .i64)) 23 w' w.heap.size (fun _ => True) v3 x3_1) ∧ Aside0 (Kd.R Kd.bool 4 w' w.heap.size (fun _ => True) v515 x4_1) ∧ Aside0 (Below w.heap.size w w'))
   case atStart => exact ⟨(y511), (y514), (0), zt, H', ⟨Nat.le_refl _⟩, ⟨zS_ HO513⟩, ⟨zR_ HO516⟩, ⟨zB_ HB⟩⟩
   case round =>
    clear H'; (try clear c2); (try clear c2b0); (try clear c2b1); (try clear p2); (try clear c3); (try clear c3b0); (try clear c3b1); (try clear c7); obtain ⟨x3_1, x4_1, x5_1, rfl, HA, HK1, HO_3, HO_4, HB⟩ := hrel
    cases gk with
    | zero => exact absurd HA.out (by simp [spec_l1Cycles.l0])
    | succ k1 =>
     have H := HA.out; clear HA; simp only [spec_l1Cycles.l0] at H
     by_cases c8 : x5_1 < (l0.length : Int)
     ·rw [if_pos c8] at H
      have c8b0 := dT c8; clear c8
      by_cases c9 : 0 ≤ x5_1
      ·rw [if_pos c9] at H
       have c9b0 := dT c9; clear c9
       by_cases c10 : x5_1 < (x4_1.length : Int)
       ·rw [if_pos c10] at H
        have c10b0 := dT c10; clear c10
        obtain ⟨bq11, hbq11⟩ : ∃ b_ : Bool, b_ = (rdOf false x4_1 x5_1) := ⟨_, rfl⟩
        replace H : (if bq11 = true then (spec_l1Cycles.l0 k1 l0 x3_1 x4_1 (wrap64 (x5_1 + 1))) else (spec_l1Cycles.l1 k1 l0 x3_1 x4_1 x5_1 (([] : List Int)) x5_1)) = some r := by rw [← hbq11] at H; exact H
        have Nbq11 := A0_ hbq11; clear hbq11
        by_cases c12 : bq11 = true
        ·subst c12
         rw [if_pos rfl] at H; have H' := A0_ H; clear H; obtain ⟨Ao13, co13, eo13⟩ := rS HO_4.out; subst eo13
         have p517 : 0 ≤ (x5_1 : Int) := zd
         have q517 : x5_1 < (x4_1.length : Int) := zd
         obtain ⟨ad517, e517, hx517_0⟩ := Kd.at_bool (rR HO_4.out).2.2 x5_1 p517 q517
         (try rw [← Nbq11.out] at hx517_0)
         cases e517
         replace p517 := eq_true p517; replace q517 := eq_true q517
         go_wp2
         go_roundg k1
         case measure => have := HK1.out; omega
         case rel => exact ⟨(x3_1), (x4_1), (wrap64 (x5_1 + 1)), zt, H', ⟨by have := HK1.out; omega⟩, ⟨zS_ HO_3⟩, ⟨zR_ HO_4⟩, ⟨zB_ HB⟩⟩
        replace c12 := Bool.eq_false_iff.mpr c12; subst c12
        rw [if_neg (show ¬ (false = true) by decide)] at H
        obtain ⟨y518, hy518⟩ : ∃ y_ : List Int, y_ = (([] : List Int)) := ⟨_, rfl⟩
        replace H : (spec_l1Cycles.l1 k1 l0 x3_1 x4_1 x5_1 y518 x5_1) = some r := zH hy518 H
        have Ny518 := A0_ hy518; clear hy518; have H' := A0_ H; clear H; obtain ⟨Ao14, co14, eo14⟩ := rS HO_4.out; subst eo14
        have p517 : 0 ≤ (x5_1 : Int) := zd
        have q517 : x5_1 < (x4_1.length : Int) := zd
        obtain ⟨ad517, e517, hx517_0⟩ := Kd.at_bool (rR HO_4.out).2.2 x5_1 p517 q517
        (try rw [← Nbq11.out] at hx517_0)
        cases e517
        replace p517 := eq_true p517; replace q517 := eq_true q517
        go_wp2_with (first | ((with_reducible refine gD (N := 22) rfl ?_); refine Kd.R_lit (Kd.int .i64) _ 3 ?hg (N := 22) ?hd (xs := ([] : List Int)) (inner := []) (ok := fun _ => True) (okp := fun _ => True) ?hr ?hp (fun _ hk => hk) trivial (Below.refl _ _) (Nat.le_refl _) (by simp) ?_; (case hd => rfl); (case hg => rfl); (case hr => first | (go_simp; done) | (go_simp; rfl)); (case hp => exact (Reps.none _ _)); intro v519 w15 ho16 hb hg_ hnew_; clear hg_ hnew_; (first | rw [← Ny518.out] at ho16 | (simp only [Int.reduceToNat] at ho16; rw [← Ny518.out] at ho16)); replace HO_3 := A0_ (Kd.S_elder' (zS_ HO_3) (Kd.R_base ho16) hb); replace HO_4 := zR HO_4 hb; have HO520 := A0_ (rL ho16 (bZ (zB_ HB))); replace HB := zB HB hb; clear hb ho16))
        (try generalize Value.pointer (some (ad517.add (x5_1 : Int).toNat)) = pz_)
        go_loopg [6, 7] k1 (fun kq v6 v7 w' => ∃ (x4_2 : List Bool) (x6_2 : List Int) (x7_2 : Int), v7 = .int .i64 x7_2 ∧ Aside0 (spec_l1Cycles.l1 kq l0 x3_1 x4_2 x5_1 x6_2 x7_2 = some r) ∧ Aside0 (kq ≤ k1) ∧ Aside0 (Kd.S (Kd.slice 3 (Kd.int .i64)) 23 w' w.heap.size (fun k_ => some k_ ≠ (v6 : Value).ownBlock) u3 x3_1) ∧ Aside0 (Kd.R Kd.bool 4 w' w.heap.size (fun _ => True) (.slice (some ad517) x4_1.length co14) x4_2) ∧ Aside0 (Kd.R (Kd.int .i64) 3 w' w.heap.size (fun _ => True) v6 x6_2) ∧ Aside0 (Below w.heap.size w w'))
        case atStart => exact ⟨(x4_1), (y518), (x5_1), zt, H', ⟨Nat.le_refl _⟩, ⟨zmS HO_3 (fun _ hk => hk.2)⟩, ⟨zR_ HO_4⟩, ⟨zR_ HO520⟩, ⟨zB_ HB⟩⟩
        case round =>
         clear H'; (try clear c1); (try clear q1); (try clear c2); (try clear c2b0); (try clear c2b1); (try clear p2); (try clear c3); (try clear c3b0); (try clear c3b1); (try clear p5); (try clear q5); (try clear hx5); (try clear p6); (try clear c7); (try clear c8); (try clear c8b0); (try clear c9); (try clear c9b0); (try clear c10); (try clear c10b0); (try clear q11); (try clear c12); (try clear hx517_0); (try clear p2); (try clear p517); (try clear q517); obtain ⟨x4_2, x6_2, x7_2, rfl, HA, HK2, HO_3, HO_4, HO_6, HB⟩ := hrel; have hl4_2 := (rR HO_4.out).1; rw [hl4_2] at HO_4; (try simp only [hl4_2]); (try simp only [hl4_2] at HO_3); (try simp only [hl4_2] at HO_6)
         cases gk with
         | zero => exact absurd HA.out (by simp [spec_l1Cycles.l1])
         | succ k2 =>
          have H := HA.out; clear HA; simp only [spec_l1Cycles.l1] at H
          by_cases c17 : 0 ≤ x7_2
          ·rw [if_pos c17] at H
           have c17b0 := dT c17; clear c17
           by_cases c18 : x7_2 < (x4_2.length : Int)
           ·rw [if_pos c18] at H
            have c18b0 := dT c18; (try simp only [hl4_2] at c18b0); clear c18
            obtain ⟨bq19, hbq19⟩ : ∃ b_ : Bool, b_ = (rdOf false x4_2 x7_2) := ⟨_, rfl⟩
            replace H : (if bq19 = true then (if x3_1.length < 5864062014805 then (spec_l1Cycles.l0 k2 l0 (x3_1 ++ [x6_2]) x4_2 (wrap64 (x5_1 + 1))) else (none)) else (if x6_2.length < 17592186044416 then (if x7_2 < (l0.length : Int) then (spec_l1Cycles.l1 k2 l0 x3_1 (x4_2.set (x7_2 : Int).toNat true) x5_1 (x6_2 ++ [x7_2]) (rd l0 x7_2)) else (none)) else (none))) = some r := by rw [← hbq19] at H; exact H
            have Nbq19 := A0_ hbq19; clear hbq19
            by_cases c20 : bq19 = true
            ·subst c20
             rw [if_pos rfl] at H
             by_cases c21 : x3_1.length < 5864062014805
             ·rw [if_pos c21] at H
              have LMc21 := A0_ c21; clear c21
              obtain ⟨y522, hy522⟩ : ∃ y_ : List (List Int), y_ = (x3_1 ++ [x6_2]) := ⟨_, rfl⟩
              replace H : (spec_l1Cycles.l0 k2 l0 y522 x4_2 (wrap64 (x5_1 + 1))) = some r := zH hy522 H
              have Ny522 := A0_ hy522; clear hy522; have H' := A0_ H; clear H
              have p521 : 0 ≤ (x7_2 : Int) := zd
              have q521 : x7_2 < (x4_2.length : Int) := zd
              obtain ⟨ad521, e521, hx521_0⟩ := Kd.at_bool (rR HO_4.out).2.2 x7_2 p521 q521
              (try rw [← Nbq11.out] at hx521_0)
              (try rw [← Nbq19.out] at hx521_0)
              obtain rfl : ad517 = ad521 := (by injection e521)
              replace p521 := eq_true p521; replace q521 := eq_true q521; obtain ⟨Ao23, co23, eo23⟩ := rS HO_6.out; subst eo23
              go_wp2_with (first | ((with_reducible refine gB (b := .append) (xs := #[.tmp 40, .tmp 42]) rfl ?_); at_builtin; refine Kd.S_append (Kd.slice 3 (Kd.int .i64)) (w0 := w) w.heap.size rfl (.tmp 40) (.tmp 42) 26 23 (.slice none 0 0) 24 rfl Try.underlying26 info23 rfl (by decide) (by omega) u3 x3_1 x6_2 [.slice Ao23 x6_2.length co23] (fun _ => True) (fun k_ => some k_ = (.slice Ao23 x6_2.length co23 : Value).ownBlock) rfl rfl ?aP (fun k_ hk_ => ((rM (ok' := fun k_ => ((fun _ => True)) k_ ∧ some k_ ≠ (u3 : Value).ownBlock) (Kd.R_apart' (HO_6.out) (Kd.S_typed HO_3.out) (by decide)) (fun k_ hk => ⟨trivial, hk.2⟩))).1 k_ hk_.symm) ?aF ?aO ?aB ?aS ?aL ?_; (case aP => exact Kd.M_row (rM (Kd.R_tight rfl (rM (ok' := fun k_ => ((fun _ => True)) k_ ∧ some k_ ≠ (u3 : Value).ownBlock) (Kd.R_apart' (HO_6.out) (Kd.S_typed HO_3.out) (by decide)) (fun k_ hk => ⟨trivial, hk.2⟩))) (fun _ h_ => h_))); (case aB => exact (zB_ HB)); (case aF => exact (fun _ _ => trivial)); (case aO => exact (zmS HO_3 (fun k_ hk => ⟨trivial, fun e_ => hk e_⟩))); (case aS => exact (bZ (zB_ HB))); (case aL => have := LMc21.out; omega); intro v523 w22 ho hb hg hat; rw [← Ny522.out] at ho; replace HO_4 := A0_ (Kd.R_over' (zR_ HO_4) (Kd.S_typed (zS_ HO_3)) (by decide) hg); replace HB := A0_ (hb); have HO524 := A0_ (ho); clear HO_3 HO_6 ho hb hg hat))
              (try simp only [← hl4_2])
              go_roundg k2
              case measure => have := HK1.out; have := HK2.out; omega
              case rel => exact ⟨(y522), (x4_2), (wrap64 (x5_1 + 1)), zt, H', ⟨by have := HK1.out; have := HK2.out; omega⟩, ⟨by (try simp only [hl4_2]); (with_reducible repeat (first | apply sA | apply sN | apply sD)); exact HO524.out⟩, ⟨by (try simp only [hl4_2]); (with_reducible repeat (first | apply rA | apply rN | apply rD)); exact HO_4.out⟩, ⟨zB_ HB⟩⟩
             rw [if_neg c21] at H
             exact absurd H (by simp)
            replace c20 := Bool.eq_false_iff.mpr c20; subst c20
            rw [if_neg (show ¬ (false = true) by decide)] at H
            obtain ⟨y525, hy525⟩ : ∃ y_ : List Bool, y_ = (x4_2.set (x7_2 : Int).toNat true) := ⟨_, rfl⟩
            replace H : (if x6_2.length < 17592186044416 then (if x7_2 < (l0.length : Int) then (spec_l1Cycles.l1 k2 l0 x3_1 y525 x5_1 (x6_2 ++ [x7_2]) (rd l0 x7_2)) else (none)) else (none)) = some r := zH hy525 H
            have Ny525 := A0_ hy525; clear hy525
            by_cases c25 : x6_2.length < 17592186044416
            ·rw [if_pos c25] at H
             have LMc25 := A0_ c25; clear c25
             obtain ⟨y526, hy526⟩ : ∃ y_ : List Int, y_ = (x6_2 ++ [x7_2]) := ⟨_, rfl⟩
             replace H : (if x7_2 < (l0.length : Int) then (spec_l1Cycles.l1 k2 l0 x3_1 y525 x5_1 y526 (rd l0 x7_2)) else (none)) = some r := zH hy526 H
             have Ny526 := A0_ hy526; clear hy526
             by_cases c26 : x7_2 < (l0.length : Int)
             ·rw [if_pos c26] at H
              have c26b0 := dT c26; (try simp only [hl4_2] at c26b0); clear c26; have H' := A0_ H; clear H
              have p521 : 0 ≤ (x7_2 : Int) := zd
              have q521 : x7_2 < (x4_2.length : Int) := zd
              obtain ⟨ad521, e521, hx521_0⟩ := Kd.at_bool (rR HO_4.out).2.2 x7_2 p521 q521
              (try rw [← Nbq11.out] at hx521_0)
              (try rw [← Nbq19.out] at hx521_0)
              obtain rfl : ad517 = ad521 := (by injection e521)
              replace p521 := eq_true p521; replace q521 := eq_true q521
              have p24 : 0 ≤ (x7_2 : Int) := zd
              have q24 : (x7_2 : Int) < ((x4_2.length : Int) : Int) := zd
              obtain ⟨go24, co24, eo24, gb24, gl24, cl24, HG24⟩ := Kd.R_form HO_4.out (by omega)
              (first | cases eo24 | (injection eo24 with ea_ en_ ec_; (first | subst ea_ | (injection ea_ with ea_; subst ea_)); subst ec_; clear en_))
              have GB24 := A0_ gb24; have GG24 := A0_ HG24; clear gb24 gl24 HG24
              (first | simp only [add_plain] at hx517_0 | skip)
              (first | simp only [add_plain] at hx521_0 | skip)
              obtain ⟨hx24_0, hf24_0⟩ := Kd.R_celln false HO_4.out (x7_2 : Int) p24 q24
              replace p24 := eq_true p24; replace q24 := eq_true q24
              have HP27 := Kd.R_putg HO_4.out (x7_2 : Int) true
              go_wp2_with (first | ((with_reducible refine gS (t := 4) (p := 35) rfl ?_); refine store_event (t := 4) (p := 35) (v := ?vo_w28) (w1 := (wr.setCell ⟨go24, (x7_2 : Int).toNat, none⟩ (.bool true))) ?hg ?ho ?hn ?hr ?_; (case ho => rfl); (case hg => rfl); (case hn => rfl); (case hr => first | (go_simp; done) | (go_simp; rfl)); intro w28 hw; have hg : wr.grownBy w28 (some go24) := (by rw [hw]; exact HP27.2); have hp_ : Kd.R Kd.bool 4 w28 w.heap.size (fun _ => True) (.slice (some ⟨go24, 0, none⟩) x4_2.length co14) y525 := (by rw [hw, Ny525.out]; exact HP27.1); clear HP27; replace HO_3 := A0_ (Kd.S_over' (v := (.slice (some ⟨go24, 0, none⟩) x4_2.length co14)) (zS_ HO_3) (Kd.R_typed HO_4.out) (by decide) hg); replace HO_6 := A0_ (Kd.R_over' (v := (.slice (some ⟨go24, 0, none⟩) x4_2.length co14)) (zR_ HO_6) (Kd.R_typed HO_4.out) (by decide) hg); replace HO_4 := A0_ (hp_); replace HB := A0_ ((by rw [hw]; exact bS (HB.out) GB24.out : Below w.heap.size w w28)); clear hg hw hp_) | ((with_reducible refine gB (b := .append) (xs := #[.tmp 36, .tmp 38]) rfl ?_); at_builtin; refine Kd.R_append (Kd.int .i64) (w0 := w) w.heap.size rfl (.tmp 36) (.tmp 38) 23 3 (.int .i64 0) 8 rfl Try.underlying23 info3 rfl (by decide) (by omega) u6 x6_2 x7_2 [.int .i64 x7_2] (fun _ => True) (fun _ => False) rfl rfl ?aP (fun _ hk => hk.elim) ?aF ?aO ?aB ?aS ?aL ?_; (case aP => exact rfl); (case aB => exact (zB_ HB)); (case aF => exact (fun _ _ => trivial)); (case aO => exact (zR_ HO_6)); (case aS => exact (bZ (zB_ HB))); (case aL => have := LMc25.out; omega); intro v527 w29 ho hb hg hat; rw [← Ny526.out] at ho; replace HO_3 := A0_ (Kd.S_after (ok := (fun _ => True)) (zmS HO_3 (fun _ hk => ⟨trivial, hk⟩)) hg hat); replace HO_4 := A0_ (Kd.R_over' (zR_ HO_4) (Kd.R_typed (zR_ HO_6)) (by decide) hg); replace HB := A0_ (hb); have HO528 := A0_ (ho); clear HO_6 ho hb hg hat; have p529 : 0 ≤ (x7_2 : Int) := zd; have q529 : x7_2 < (l0.length : Int) := zd; obtain ⟨ad529, e529, hx529_0⟩ := tI HR0.out x7_2 p529 q529; cases e529; try replace hx529_0 := (HB.out.cell (wL w _ hx529_0)).trans hx529_0; replace p529 := eq_true p529; replace q529 := eq_true q529))
              (try simp only [← hl4_2])
              go_roundg k2
              case measure => have := HK1.out; have := HK2.out; omega
              case rel => exact ⟨(y525), (y526), (rd l0 x7_2), zt, H', ⟨by have := HK1.out; have := HK2.out; omega⟩, ⟨by (try simp only [hl4_2]); (with_reducible repeat (first | apply sA | apply sN | apply sD)); exact sM HO_3.out (fun _ hk => hk.2)⟩, ⟨by (try simp only [hl4_2]); (with_reducible repeat (first | apply rA | apply rN | apply rD)); exact HO_4.out⟩, ⟨by (try simp only [hl4_2]); (with_reducible repeat (first | apply rA | apply rN | apply rD)); exact HO528.out⟩, ⟨zB_ HB⟩⟩
             rw [if_neg c26] at H
             exact absurd H (by simp)
            rw [if_neg c25] at H
            exact absurd H (by simp)
           rw [if_neg c18] at H
           exact absurd H (by simp)
          rw [if_neg c17] at H
          exact absurd H (by simp)
       rw [if_neg c10] at H
       exact absurd H (by simp)
      rw [if_neg c9] at H
      exact absurd H (by simp)
     rw [if_neg c8] at H; have c8b0 := dF c8; clear c8; obtain rfl := sI H
     go_wp2
     go_ret
     exact ⟨_, by first | rfl | (simp [*] <;> rfl), zS_ HO_3, zB_ HB⟩
  rw [if_neg c3] at H
  exact absurd H (by simp)
 rw [if_neg c2] at H
 exact absurd H (by simp)

/-! ### spec_l1Mul: function 82 -/
def spec_l1Mul.l0 : Nat → List Int → List Int → List Int → Int → Option (List Int)
  | 0, _, _, _, _ => none
  | k + 1, x0, x1, x5, x6 => if x6 < (x0.length : Int) then (if 0 ≤ x6 then (if 0 ≤ (rd x0 x6) then (if (rd x0 x6) < (x1.length : Int) then (if x5.length < 17592186044416 then (spec_l1Mul.l0 k x0 x1 (x5 ++ [rd x1 (rd x0 x6)]) (wrap64 (x6 + 1))) else (none)) else (none)) else (none)) else (none)) else (some x5)
def spec_l1Mul.f (k : Nat) (l0 : List Int) (l1 : List Int) : Option (List Int) := spec_l1Mul.l0 k l0 l1 (([] : List Int)) 0
set_option maxHeartbeats 8000000 in
set_option maxRecDepth 100000 in
theorem spec_l1Mul.calls (k : Nat) (A0 : Option Addr) (c0 : Nat) (l0 : List Int) (A1 : Option Addr) (c1 : Nat) (l1 : List Int) (r : List Int) (w : World) (hr0 : Kd.C (Kd.int .i64) w A0 l0.length l0) (hc0 : l0.length ≤ c0) (hr1 : Kd.C (Kd.int .i64) w A1 l1.length l1) (hc1 : l1.length ≤ c1) (h : spec_l1Mul.f k l0 l1 = some r) :
    Calls Try.prog 82 #[.slice A0 l0.length c0, .slice A1 l1.length c1] w fun e w' => ∃ v0_ : Value, e = .returned (v0_) ∧ Kd.R (Kd.int .i64) 3 w' w.heap.size (fun _ => True) v0_ r ∧ Below w.heap.size w w' := by
 have HR0 := A0_ hr0; have HC0 := A0_ hc0; clear hr0 hc0; have HR1 := A0_ hr1; have HC1 := A0_ hc1; clear hr1 hc1
 have HB := A0_ (Below.refl w.heap.size w)
 have H : (spec_l1Mul.l0 k l0 l1 (([] : List Int)) 0) = some r := h
 clear h
 obtain ⟨y530, hy530⟩ : ∃ y_ : List Int, y_ = (([] : List Int)) := ⟨_, rfl⟩
 replace H : (spec_l1Mul.l0 k l0 l1 y530 0) = some r := zH hy530 H
 have Ny530 := A0_ hy530; clear hy530; have H' := A0_ H; clear H
 go_enter Try.func82, Try.ntmps82
 go_wp2_with (first | ((with_reducible refine gD (N := 7) rfl ?_); refine Kd.R_lit (Kd.int .i64) _ 3 ?hg (N := 7) ?hd (xs := ([] : List Int)) (inner := []) (ok := fun _ => True) (okp := fun _ => True) ?hr ?hp (fun _ hk => hk) trivial (Below.refl _ _) (Nat.le_refl _) (by simp) ?_; (case hd => rfl); (case hg => rfl); (case hr => first | (go_simp; done) | (go_simp; rfl)); (case hp => exact (Reps.none _ _)); intro v531 w3 ho4 hb hg_ hnew_; clear hg_ hnew_; (first | rw [← Ny530.out] at ho4 | (simp only [Int.reduceToNat] at ho4; rw [← Ny530.out] at ho4)); have HO532 := A0_ (rL ho4 (bZ (zB_ HB))); replace HB := zB HB hb; clear hb ho4))
 go_loopg [5, 6] k (fun kq v5 v6 w' => ∃ (x5_1 : List Int) (x6_1 : Int), v6 = .int .i64 x6_1 ∧ Aside0 (spec_l1Mul.l0 kq l0 l1 x5_1 x6_1 = some r) ∧ Aside0 (kq ≤ k) ∧ Aside0 (Kd.R (Kd.int .i64) 3 w' w.heap.size (fun _ => True) v5 x5_1) ∧ Aside0 (Below w.heap.size w w'))
 case atStart => exact ⟨(y530), (0), zt, H', ⟨Nat.le_refl _⟩, ⟨zR_ HO532⟩, ⟨zB_ HB⟩⟩
 case round =>
  clear H'; (try clear c1); (try clear p2); obtain ⟨x5_1, x6_1, rfl, HA, HK1, HO_5, HB⟩ := hrel
  cases gk with
  | zero => exact absurd HA.out (by simp [spec_l1Mul.l0])
  | succ k1 =>
   have H := HA.out; clear HA; simp only [spec_l1Mul.l0] at H
   by_cases c5 : x6_1 < (l0.length : Int)
   ·rw [if_pos c5] at H
    have c5b0 := dT c5; clear c5
    by_cases c6 : 0 ≤ x6_1
    ·rw [if_pos c6] at H
     have c6b0 := dT c6; clear c6
     by_cases c7 : 0 ≤ (rd l0 x6_1)
     ·rw [if_pos c7] at H
      have c7b0 := dT c7; clear c7
      by_cases c8 : (rd l0 x6_1) < (l1.length : Int)
      ·rw [if_pos c8] at H
       have c8b0 := dT c8; clear c8
       by_cases c9 : x5_1.length < 17592186044416
       ·rw [if_pos c9] at H
        have LMc9 := A0_ c9; clear c9
        obtain ⟨y535, hy535⟩ : ∃ y_ : List Int, y_ = (x5_1 ++ [rd l1 (rd l0 x6_1)]) := ⟨_, rfl⟩
        replace H : (spec_l1Mul.l0 k1 l0 l1 y535 (wrap64 (x6_1 + 1))) = some r := zH hy535 H
        have Ny535 := A0_ hy535; clear hy535; have H' := A0_ H; clear H
        have p533 : 0 ≤ (x6_1 : Int) := zd
        have q533 : x6_1 < (l0.length : Int) := zd
        obtain ⟨ad533, e533, hx533_0⟩ := tI HR0.out x6_1 p533 q533
        cases e533
        try replace hx533_0 := (HB.out.cell (wL w _ hx533_0)).trans hx533_0
        replace p533 := eq_true p533; replace q533 := eq_true q533
        have p534 : 0 ≤ ((rd l0 x6_1) : Int) := zd
        have q534 : (rd l0 x6_1) < (l1.length : Int) := zd
        obtain ⟨ad534, e534, hx534_0⟩ := tI HR1.out (rd l0 x6_1) p534 q534
        cases e534
        try replace hx534_0 := (HB.out.cell (wL w _ hx534_0)).trans hx534_0
        replace p534 := eq_true p534; replace q534 := eq_true q534
        go_wp2_with (first | ((with_reducible refine gB (b := .append) (xs := #[.tmp 14, .tmp 22]) rfl ?_); at_builtin; refine Kd.R_append (Kd.int .i64) (w0 := w) w.heap.size rfl (.tmp 14) (.tmp 22) 23 3 (.int .i64 0) 8 rfl Try.underlying23 info3 rfl (by decide) (by omega) u5 x5_1 (rd l1 (rd l0 x6_1)) [.int .i64 (rd l1 (rd l0 x6_1))] (fun _ => True) (fun _ => False) rfl rfl ?aP (fun _ hk => hk.elim) ?aF ?aO ?aB ?aS ?aL ?_; (case aP => exact rfl); (case aB => exact (zB_ HB)); (case aF => exact (fun _ _ => trivial)); (case aO => exact (zR_ HO_5)); (case aS => exact (bZ (zB_ HB))); (case aL => have := LMc9.out; omega); intro v536 w10 ho hb hg hat; rw [← Ny535.out] at ho; replace HB := A0_ (hb); have HO537 := A0_ (ho); clear HO_5 ho hb hg hat))
        go_roundg k1
        case measure => have := HK1.out; omega
        case rel => exact ⟨(y535), (wrap64 (x6_1 + 1)), zt, H', ⟨by have := HK1.out; omega⟩, ⟨zR_ HO537⟩, ⟨zB_ HB⟩⟩
       rw [if_neg c9] at H
       exact absurd H (by simp)
      rw [if_neg c8] at H
      exact absurd H (by simp)
     rw [if_neg c7] at H
     exact absurd H (by simp)
    rw [if_neg c6] at H
    exact absurd H (by simp)
   rw [if_neg c5] at H; have c5b0 := dF c5; clear c5; obtain rfl := sI H
   go_wp2
   go_ret
   exact ⟨_, by first | rfl | (simp [*] <;> rfl), zR_ HO_5, zB_ HB⟩

/-! ### spec_l2Faces: function 72 -/
def spec_l2Faces.f (k : Nat) (l0_0 : List Int) (l0_1 : List Int) : Option (List Int) := (spec_l1Mul.f k l0_1 l0_0).bind fun t539 => (some t539)
set_option maxHeartbeats 8000000 in
set_option maxRecDepth 100000 in
theorem spec_l2Faces.calls (k : Nat) (A0_0 : Option Addr) (c0_0 : Nat) (l0_0 : List Int) (A0_1 : Option Addr) (c0_1 : Nat) (l0_1 : List Int) (r : List Int) (w : World) (hr0_0 : Kd.C (Kd.int .i64) w A0_0 l0_0.length l0_0) (hc0_0 : l0_0.length ≤ c0_0) (hr0_1 : Kd.C (Kd.int .i64) w A0_1 l0_1.length l0_1) (hc0_1 : l0_1.length ≤ c0_1) (h : spec_l2Faces.f k l0_0 l0_1 = some r) :
    Calls Try.prog 72 #[.agg #[.slice A0_0 l0_0.length c0_0, .slice A0_1 l0_1.length c0_1]] w fun e w' => ∃ v0_ : Value, e = .returned (v0_) ∧ Kd.R (Kd.int .i64) 3 w' w.heap.size (fun _ => True) v0_ r ∧ Below w.heap.size w w' := by
 have hu25 := Try.underlying25; have HR0_0 := A0_ hr0_0; have HC0_0 := A0_ hc0_0; clear hr0_0 hc0_0; have HR0_1 := A0_ hr0_1; have HC0_1 := A0_ hc0_1; clear hr0_1 hc0_1
 have HB := A0_ (Below.refl w.heap.size w)
 have H : ((spec_l1Mul.f k l0_1 l0_0).bind fun t539 => (some t539)) = some r := h
 clear h; obtain ⟨t539, A2, H⟩ := zbind H; obtain rfl := sI H
 go_enter Try.func72, Try.ntmps72
 go_wp2_with (first | ((with_reducible refine gD (N := 1) rfl ?_); refine zX (N := 1) (cs := #[.slice A0_0 l0_0.length c0_0, .slice A0_1 l0_1.length c0_1]) (t := 25) ?_; intro gb538 hg w3 hbox hb; have BK538 := A0_ (hbox); have GW538 := zG hg HB; have GE538 := zG hg HB; replace HB := zB HB hb; clear hb hbox hg; have hcz4_0 := zc0 BK538; have hcz4_1 := zc1 BK538; have hfz4_0 := kF BK538.out 0; have hfz4_1 := kF BK538.out 1) | ((with_reducible refine gC (f := 82) rfl ?_); refine zJ (some 7) Try.func82 #[.slice A0_1 l0_1.length c0_1, .slice A0_0 l0_0.length c0_0] ?_; (with_reducible refine (spec_l1Mul.calls k _ _ l0_1 _ _ l0_0 t539 _ ?side1 ?side2 ?side3 ?side4 A2.out).mono ?_); (case side1 => exact zC HR0_1 HB); (case side2 => exact HC0_1.out); (case side3 => exact zC HR0_0 HB); (case side4 => exact HC0_0.out); rintro e w5 ⟨v540, rfl, ho0, hb⟩; refine ⟨_, rfl, ?_⟩; have HO541 := A0_ (rL ho0 (bZ (zB_ HB))); replace BK538 := zK BK538 hb; replace HB := zB HB hb; (try clear hb); (try clear ho0)))
 go_ret
 exact ⟨_, by first | rfl | (simp [*] <;> rfl), zR_ HO541, zB_ HB⟩

end Go.Proofs.Ytmegggomhjgehaa.PFnBranch
