-- Made by a program of this session (wip/tools) out of the loaded program; not trusted: Lean checks it.
import Derived.Test.YtpfnchjbbagmdaaPFnNumberx0
import Derived.Test.YtpfnchjbbagmdaaPFnNumberx2
import Derived.Test.YtpfnchjbbagmdaaPFnNumberx6
namespace Go.Proofs.Ytpfnchjbbagmdaa.PFnNumber
open Go.RowKit Go.Proofs.YtpfnchjbbagmdaaW.PrintWords Go.Proofs.YtpfnchjbbagmdaaW.PrintLast Go.Proofs.YtpfnchjbbagmdaaW.PrintMore
attribute [local go_sem] max2_int min2_int max_two min_two max_three min_three max_four min_four   -- for this text's walks alone
set_option linter.unusedVariables false
set_option linter.unusedSimpArgs false

/-! ### spec_l8Corners: function 35 -/
mutual
def spec_l8Corners.l0 : Nat → ByteArray → Int → List Int → List Int → Int → Option (Int)
  | 0, _, _, _, _, _ => none
  | k + 1, x0, x3, x4, x5, x6 => if x6 < (x0.size : Int) then ((spec_l8Partner.f k x0 x6).bind fun t236 => (if 0 ≤ x6 then ((spec_l8Small.f (bt x0 x6)).bind fun t237 => (if 0 ≤ t236 then (if t236 < (x0.size : Int) then ((spec_l8Small.f (bt x0 t236)).bind fun t238 => (if (t237 != t238) = true then (if 0 ≤ (wrap64 (2 * x6)) then (if (wrap64 (2 * x6)) < (x4.length : Int) then (if 0 ≤ (wrap64 ((wrap64 (2 * x6)) + 1)) then (if (wrap64 ((wrap64 (2 * x6)) + 1)) < (x4.length : Int) then (if x3 = 0 then (none) else (if (wrap64 ((wrap64 (2 * x6)) + 1)) < (x5.length : Int) then (if 0 ≤ (Int.tmod (wrap64 ((wrap64 (2 * x6)) + 2)) x3) then (if (Int.tmod (wrap64 ((wrap64 (2 * x6)) + 2)) x3) < (x5.length : Int) then (spec_l8Corners.l0 k x0 x3 ((x4.set ((wrap64 (2 * x6)) : Int).toNat (wrap64 ((wrap64 (2 * t236)) + 1))).set ((wrap64 ((wrap64 (2 * x6)) + 1)) : Int).toNat (wrap64 ((wrap64 ((wrap64 (2 * t236)) + 1)) - 1))) ((x5.set ((wrap64 ((wrap64 (2 * x6)) + 1)) : Int).toNat (Int.tmod (wrap64 ((wrap64 (2 * x6)) + 2)) x3)).set ((Int.tmod (wrap64 ((wrap64 (2 * x6)) + 2)) x3) : Int).toNat (wrap64 ((wrap64 (2 * x6)) + 1))) (wrap64 (x6 + 1))) else (none)) else (none)) else (none))) else (none)) else (none)) else (none)) else (none)) else (if 0 ≤ (wrap64 (2 * x6)) then (if (wrap64 (2 * x6)) < (x4.length : Int) then (if 0 ≤ (wrap64 ((wrap64 (2 * x6)) + 1)) then (if (wrap64 ((wrap64 (2 * x6)) + 1)) < (x4.length : Int) then (if x3 = 0 then (none) else (if (wrap64 ((wrap64 (2 * x6)) + 1)) < (x5.length : Int) then (if 0 ≤ (Int.tmod (wrap64 ((wrap64 (2 * x6)) + 2)) x3) then (if (Int.tmod (wrap64 ((wrap64 (2 * x6)) + 2)) x3) < (x5.length : Int) then (spec_l8Corners.l0 k x0 x3 ((x4.set ((wrap64 (2 * x6)) : Int).toNat (wrap64 ((wrap64 (2 * t236)) + 0))).set ((wrap64 ((wrap64 (2 * x6)) + 1)) : Int).toNat (wrap64 ((wrap64 ((wrap64 (2 * t236)) + 1)) - 0))) ((x5.set ((wrap64 ((wrap64 (2 * x6)) + 1)) : Int).toNat (Int.tmod (wrap64 ((wrap64 (2 * x6)) + 2)) x3)).set ((Int.tmod (wrap64 ((wrap64 (2 * x6)) + 2)) x3) : Int).toNat (wrap64 ((wrap64 (2 * x6)) + 1))) (wrap64 (x6 + 1))) else (none)) else (none)) else (none))) else (none)) else (none)) else (none)) else (none)))) else (none)) else (none))) else (none))) else ((spec_l1Orbits.f k x4 x5).bind fun t247 => (spec_l8Corners.l1 k x3 t247 0 0))
def spec_l8Corners.l1 : Nat → Int → List Int → Int → Int → Option (Int)
  | 0, _, _, _, _ => none
  | k + 1, x3, x9, x10, x11 => if x11 < x3 then (if 0 ≤ x11 then (if x11 < (x9.length : Int) then (if (rd x9 x11) = x11 then (spec_l8Corners.l1 k x3 x9 (wrap64 (x10 + 1)) (wrap64 (x11 + 1))) else (spec_l8Corners.l1 k x3 x9 x10 (wrap64 (x11 + 1)))) else (none)) else (none)) else (some x10)
end
def spec_l8Corners.f (k : Nat) (a0 : ByteArray) : Option (Int) := if 0 ≤ (wrap64 (2 * (a0.size : Int))) then (if (wrap64 (2 * (a0.size : Int)) : Int).toNat ≤ 35184372088832 then (spec_l8Corners.l0 k a0 (wrap64 (2 * (a0.size : Int))) (List.replicate (wrap64 (2 * (a0.size : Int)) : Int).toNat 0) (List.replicate (wrap64 (2 * (a0.size : Int)) : Int).toNat 0) 0) else (none)) else (none)
set_option maxHeartbeats 8000000 in
set_option maxRecDepth 100000 in
theorem spec_l8Corners.calls (k : Nat) (a0 : ByteArray) (r : Int) (w : World) (h : spec_l8Corners.f k a0 = some r) :
    Calls Try.prog 35 #[.string a0] w fun e w' => e = .returned (.int .i64 r) ∧ Below w.heap.size w w' := by
 have HB := Aside0.mk (Below.refl w.heap.size w)
 have H : (if 0 ≤ (wrap64 (2 * (a0.size : Int))) then (if (wrap64 (2 * (a0.size : Int)) : Int).toNat ≤ 35184372088832 then (spec_l8Corners.l0 k a0 (wrap64 (2 * (a0.size : Int))) (List.replicate (wrap64 (2 * (a0.size : Int)) : Int).toNat 0) (List.replicate (wrap64 (2 * (a0.size : Int)) : Int).toNat 0) 0) else (none)) else (none)) = some r := h
 clear h
 obtain ⟨ji2, hji2⟩ : ∃ j_ : Int, (wrap64 (2 * (a0.size : Int))) = j_ := ⟨_, rfl⟩
 replace H : (if 0 ≤ (ji2) then (if (ji2 : Int).toNat ≤ 35184372088832 then (spec_l8Corners.l0 k a0 ji2 (List.replicate (ji2 : Int).toNat 0) (List.replicate (ji2 : Int).toNat 0) 0) else (none)) else (none)) = some r := by first | (rw [hji2] at H; exact H) | (simp only [hji2] at H ⊢; exact H)
 have hji2w : (IntKind.i64.wrap (2 * (a0.size : Int))) = ji2 := (i64_w _).trans hji2
 by_cases c3 : 0 ≤ (ji2)
 ·rw [if_pos c3] at H
  have c3b0 := eq_true c3
  have c3b1 : decide (0 ≤ (ji2)) = true := decide_eq_true c3
  clear c3
  by_cases c4 : (ji2 : Int).toNat ≤ 35184372088832
  ·rw [if_pos c4] at H
   have c4b0 := eq_true c4
   have c4b1 : decide ((ji2 : Int).toNat ≤ 35184372088832) = true := decide_eq_true c4
   clear c4
   obtain ⟨y230, hy230⟩ : ∃ y_ : List Int, y_ = (List.replicate (ji2 : Int).toNat 0) := ⟨_, rfl⟩
   replace H : (spec_l8Corners.l0 k a0 ji2 y230 (List.replicate (ji2 : Int).toNat 0) 0) = some r := by first | (rw [hy230]; with_reducible exact H) | (have H2_ := (Option.bind_some _ _).symm.trans H; rw [hy230]; with_reducible exact H2_) | (have H2_ := (Option.bind_some _ _).symm.trans H; with_reducible exact H2_) | with_reducible exact H | (rw [hy230]; exact H) | exact H
   have Ny230 := Aside0.mk hy230
   clear hy230
   obtain ⟨y233, hy233⟩ : ∃ y_ : List Int, y_ = (List.replicate (ji2 : Int).toNat 0) := ⟨_, rfl⟩
   replace H : (spec_l8Corners.l0 k a0 ji2 y230 y233 0) = some r := by first | (rw [hy233]; with_reducible exact H) | (have H2_ := (Option.bind_some _ _).symm.trans H; rw [hy233]; with_reducible exact H2_) | (have H2_ := (Option.bind_some _ _).symm.trans H; with_reducible exact H2_) | with_reducible exact H | (rw [hy233]; exact H) | exact H
   have Ny233 := Aside0.mk hy233
   clear hy233
   have H' := Aside0.mk H
   clear H
   go_enter Try.func35, Try.ntmps35
   go_wp2_with (first | ((with_reducible refine gate_dst (N := 16) rfl ?_); refine Kd.R_make (Kd.int .i64) _ 3 rfl (N := 16) rfl 24 _ _ rfl ji2 rfl rfl Try.underlying24 (.int .i64 0) 8 info3 rfl (by decide) (by omega) 0 (ok := fun _ => True) (okp := fun _ => True) rfl (fun _ hk => hk) trivial (of_decide_eq_true (by first | (with_reducible assumption) | assumption)) (Nat.le_trans (Nat.mul_le_mul_right _ (of_decide_eq_true (by first | (with_reducible assumption) | assumption) : ji2.toNat ≤ 35184372088832)) (by omega)) (Below.refl _ _) (Nat.le_refl _) ?_; intro v231 w5 ho6 hb hg_ hnew_; clear hg_ hnew_; (first | rw [← Ny230.out] at ho6 | (simp only [Int.reduceToNat] at ho6; rw [← Ny230.out] at ho6)); have n0_ := Aside0.mk (Kd.R_lower ho6 (below_size (by repeat (first | (with_reducible first | exact HB.out | apply below_alloc | apply pw_below_drewN | apply below_drew1) | exact HB.out)))); have n1_ := Aside0.mk (below_step (by repeat (first | (with_reducible first | exact HB.out | apply below_alloc | apply pw_below_drewN | apply below_drew1) | exact HB.out)) hb); clear HB; have HO232 := n0_; have HB := n1_; clear n0_ n1_; clear hb ho6) | ((with_reducible refine gate_dst (N := 18) rfl ?_); refine Kd.R_make (Kd.int .i64) _ 3 rfl (N := 18) rfl 24 _ _ rfl ji2 rfl rfl Try.underlying24 (.int .i64 0) 8 info3 rfl (by decide) (by omega) 0 (ok := fun _ => True) (okp := fun _ => True) rfl (fun _ hk => hk) trivial (of_decide_eq_true (by first | (with_reducible assumption) | assumption)) (Nat.le_trans (Nat.mul_le_mul_right _ (of_decide_eq_true (by first | (with_reducible assumption) | assumption) : ji2.toNat ≤ 35184372088832)) (by omega)) (Below.refl _ _) (Nat.le_refl _) ?_; intro v234 w7 ho8 hb hg_ hnew_; clear hg_ hnew_; (first | rw [← Ny233.out] at ho8 | (simp only [Int.reduceToNat] at ho8; rw [← Ny233.out] at ho8)); have n0_ := Aside0.mk (Kd.R_elder' (by (with_reducible repeat (first | apply Kd.R_alloc | apply Kd.R_drewN | apply Kd.R_drew)); exact HO232.out) (Kd.R_base ho8) hb); have n1_ := Aside0.mk (Kd.R_lower (Kd.R_new' ho8 (Kd.R_lt (by (with_reducible repeat (first | apply Kd.R_alloc | apply Kd.R_drewN | apply Kd.R_drew)); exact HO232.out))) (below_size (by repeat (first | (with_reducible first | exact HB.out | apply below_alloc | apply pw_below_drewN | apply below_drew1) | exact HB.out)))); have n2_ := Aside0.mk (below_step (by repeat (first | (with_reducible first | exact HB.out | apply below_alloc | apply pw_below_drewN | apply below_drew1) | exact HB.out)) hb); clear HO232; clear HB; have HO232 := n0_; have HO235 := n1_; have HB := n2_; clear n0_ n1_ n2_; clear hb ho8))
   repeat (go_quiet (first | ((with_reducible refine gate_dst (N := 16) rfl ?_); refine Kd.R_make (Kd.int .i64) _ 3 rfl (N := 16) rfl 24 _ _ rfl ji2 rfl rfl Try.underlying24 (.int .i64 0) 8 info3 rfl (by decide) (by omega) 0 (ok := fun _ => True) (okp := fun _ => True) rfl (fun _ hk => hk) trivial (of_decide_eq_true (by first | (with_reducible assumption) | assumption)) (Nat.le_trans (Nat.mul_le_mul_right _ (of_decide_eq_true (by first | (with_reducible assumption) | assumption) : ji2.toNat ≤ 35184372088832)) (by omega)) (Below.refl _ _) (Nat.le_refl _) ?_; intro v231 w5 ho6 hb hg_ hnew_; clear hg_ hnew_; (first | rw [← Ny230.out] at ho6 | (simp only [Int.reduceToNat] at ho6; rw [← Ny230.out] at ho6)); have n0_ := Aside0.mk (Kd.R_lower ho6 (below_size (by repeat (first | (with_reducible first | exact HB.out | apply below_alloc | apply pw_below_drewN | apply below_drew1) | exact HB.out)))); have n1_ := Aside0.mk (below_step (by repeat (first | (with_reducible first | exact HB.out | apply below_alloc | apply pw_below_drewN | apply below_drew1) | exact HB.out)) hb); clear HB; have HO232 := n0_; have HB := n1_; clear n0_ n1_; clear hb ho6) | ((with_reducible refine gate_dst (N := 18) rfl ?_); refine Kd.R_make (Kd.int .i64) _ 3 rfl (N := 18) rfl 24 _ _ rfl ji2 rfl rfl Try.underlying24 (.int .i64 0) 8 info3 rfl (by decide) (by omega) 0 (ok := fun _ => True) (okp := fun _ => True) rfl (fun _ hk => hk) trivial (of_decide_eq_true (by first | (with_reducible assumption) | assumption)) (Nat.le_trans (Nat.mul_le_mul_right _ (of_decide_eq_true (by first | (with_reducible assumption) | assumption) : ji2.toNat ≤ 35184372088832)) (by omega)) (Below.refl _ _) (Nat.le_refl _) ?_; intro v234 w7 ho8 hb hg_ hnew_; clear hg_ hnew_; (first | rw [← Ny233.out] at ho8 | (simp only [Int.reduceToNat] at ho8; rw [← Ny233.out] at ho8)); have n0_ := Aside0.mk (Kd.R_elder' (by (with_reducible repeat (first | apply Kd.R_alloc | apply Kd.R_drewN | apply Kd.R_drew)); exact HO232.out) (Kd.R_base ho8) hb); have n1_ := Aside0.mk (Kd.R_lower (Kd.R_new' ho8 (Kd.R_lt (by (with_reducible repeat (first | apply Kd.R_alloc | apply Kd.R_drewN | apply Kd.R_drew)); exact HO232.out))) (below_size (by repeat (first | (with_reducible first | exact HB.out | apply below_alloc | apply pw_below_drewN | apply below_drew1) | exact HB.out)))); have n2_ := Aside0.mk (below_step (by repeat (first | (with_reducible first | exact HB.out | apply below_alloc | apply pw_below_drewN | apply below_drew1) | exact HB.out)) hb); clear HO232; clear HB; have HO232 := n0_; have HO235 := n1_; have HB := n2_; clear n0_ n1_ n2_; clear hb ho8)); try go_wp2_with (first | ((with_reducible refine gate_dst (N := 16) rfl ?_); refine Kd.R_make (Kd.int .i64) _ 3 rfl (N := 16) rfl 24 _ _ rfl ji2 rfl rfl Try.underlying24 (.int .i64 0) 8 info3 rfl (by decide) (by omega) 0 (ok := fun _ => True) (okp := fun _ => True) rfl (fun _ hk => hk) trivial (of_decide_eq_true (by first | (with_reducible assumption) | assumption)) (Nat.le_trans (Nat.mul_le_mul_right _ (of_decide_eq_true (by first | (with_reducible assumption) | assumption) : ji2.toNat ≤ 35184372088832)) (by omega)) (Below.refl _ _) (Nat.le_refl _) ?_; intro v231 w5 ho6 hb hg_ hnew_; clear hg_ hnew_; (first | rw [← Ny230.out] at ho6 | (simp only [Int.reduceToNat] at ho6; rw [← Ny230.out] at ho6)); have n0_ := Aside0.mk (Kd.R_lower ho6 (below_size (by repeat (first | (with_reducible first | exact HB.out | apply below_alloc | apply pw_below_drewN | apply below_drew1) | exact HB.out)))); have n1_ := Aside0.mk (below_step (by repeat (first | (with_reducible first | exact HB.out | apply below_alloc | apply pw_below_drewN | apply below_drew1) | exact HB.out)) hb); clear HB; have HO232 := n0_; have HB := n1_; clear n0_ n1_; clear hb ho6) | ((with_reducible refine gate_dst (N := 18) rfl ?_); refine Kd.R_make (Kd.int .i64) _ 3 rfl (N := 18) rfl 24 _ _ rfl ji2 rfl rfl Try.underlying24 (.int .i64 0) 8 info3 rfl (by decide) (by omega) 0 (ok := fun _ => True) (okp := fun _ => True) rfl (fun _ hk => hk) trivial (of_decide_eq_true (by first | (with_reducible assumption) | assumption)) (Nat.le_trans (Nat.mul_le_mul_right _ (of_decide_eq_true (by first | (with_reducible assumption) | assumption) : ji2.toNat ≤ 35184372088832)) (by omega)) (Below.refl _ _) (Nat.le_refl _) ?_; intro v234 w7 ho8 hb hg_ hnew_; clear hg_ hnew_; (first | rw [← Ny233.out] at ho8 | (simp only [Int.reduceToNat] at ho8; rw [← Ny233.out] at ho8)); have n0_ := Aside0.mk (Kd.R_elder' (by (with_reducible repeat (first | apply Kd.R_alloc | apply Kd.R_drewN | apply Kd.R_drew)); exact HO232.out) (Kd.R_base ho8) hb); have n1_ := Aside0.mk (Kd.R_lower (Kd.R_new' ho8 (Kd.R_lt (by (with_reducible repeat (first | apply Kd.R_alloc | apply Kd.R_drewN | apply Kd.R_drew)); exact HO232.out))) (below_size (by repeat (first | (with_reducible first | exact HB.out | apply below_alloc | apply pw_below_drewN | apply below_drew1) | exact HB.out)))); have n2_ := Aside0.mk (below_step (by repeat (first | (with_reducible first | exact HB.out | apply below_alloc | apply pw_below_drewN | apply below_drew1) | exact HB.out)) hb); clear HO232; clear HB; have HO232 := n0_; have HO235 := n1_; have HB := n2_; clear n0_ n1_ n2_; clear hb ho8)))
   go_loopg [6] k (fun kq v6 w' => ∃ (x4_1 : List Int) (x5_1 : List Int) (x6_1 : Int), v6 = .int .i64 x6_1 ∧ Aside0 (spec_l8Corners.l0 kq a0 ji2 x4_1 x5_1 x6_1 = some r) ∧ Aside0 (kq ≤ k) ∧ Aside0 (Kd.R (Kd.int .i64) 3 w' w.heap.size (fun k_ => some k_ ≠ (v234 : Value).ownBlock) v231 x4_1) ∧ Aside0 (Kd.R (Kd.int .i64) 3 w' w.heap.size (fun k_ => some k_ ≠ (v231 : Value).ownBlock) v234 x5_1) ∧ Aside0 (Below w.heap.size w w'))
   case atStart => exact ⟨(y230), (y233), (0), (by first | rfl | (simp; done) | (simp [*]; done)), H', ⟨Nat.le_refl _⟩, ⟨by (with_reducible repeat (first | apply Kd.R_alloc | apply Kd.R_drewN | apply Kd.R_drew)); exact Kd.R_mono HO232.out (fun _ hk => hk.2)⟩, ⟨by (with_reducible repeat (first | apply Kd.R_alloc | apply Kd.R_drewN | apply Kd.R_drew)); exact Kd.R_mono HO235.out (fun _ hk => hk.2)⟩, ⟨by repeat (first | (with_reducible first | exact HB.out | apply below_alloc | apply pw_below_drewN | apply below_drew1) | exact HB.out)⟩⟩
   case round =>
    clear H'
    try clear p2
    try clear c3
    try clear c3b0
    try clear c3b1
    try clear c4
    try clear c4b0
    try clear c4b1
    try clear p6
    obtain ⟨x4_1, x5_1, x6_1, rfl, HA, HK1, HO_4, HO_5, HB⟩ := hrel
    cases gk with
    | zero => exact absurd HA.out (by simp [spec_l8Corners.l0])
    | succ k1 =>
     have H := HA.out
     clear HA
     simp only [spec_l8Corners.l0] at H
     by_cases c9 : x6_1 < (a0.size : Int)
     ·rw [if_pos c9] at H
      have c9b0 : decide (x6_1 < (a0.size : Int)) = true := decide_eq_true c9
      clear c9
      replace H := Option.bind_eq_some_iff.mp H
      obtain ⟨t236, A100, H⟩ := H
      replace H : (if 0 ≤ x6_1 then ((spec_l8Small.f (bt a0 x6_1)).bind fun t237 => (if 0 ≤ t236 then (if t236 < (a0.size : Int) then ((spec_l8Small.f (bt a0 t236)).bind fun t238 => (if (t237 != t238) = true then (if 0 ≤ (wrap64 (2 * x6_1)) then (if (wrap64 (2 * x6_1)) < (x4_1.length : Int) then (if 0 ≤ (wrap64 ((wrap64 (2 * x6_1)) + 1)) then (if (wrap64 ((wrap64 (2 * x6_1)) + 1)) < (x4_1.length : Int) then (if ji2 = 0 then (none) else (if (wrap64 ((wrap64 (2 * x6_1)) + 1)) < (x5_1.length : Int) then (if 0 ≤ (Int.tmod (wrap64 ((wrap64 (2 * x6_1)) + 2)) ji2) then (if (Int.tmod (wrap64 ((wrap64 (2 * x6_1)) + 2)) ji2) < (x5_1.length : Int) then (spec_l8Corners.l0 k1 a0 ji2 ((x4_1.set ((wrap64 (2 * x6_1)) : Int).toNat (wrap64 ((wrap64 (2 * t236)) + 1))).set ((wrap64 ((wrap64 (2 * x6_1)) + 1)) : Int).toNat (wrap64 ((wrap64 ((wrap64 (2 * t236)) + 1)) - 1))) ((x5_1.set ((wrap64 ((wrap64 (2 * x6_1)) + 1)) : Int).toNat (Int.tmod (wrap64 ((wrap64 (2 * x6_1)) + 2)) ji2)).set ((Int.tmod (wrap64 ((wrap64 (2 * x6_1)) + 2)) ji2) : Int).toNat (wrap64 ((wrap64 (2 * x6_1)) + 1))) (wrap64 (x6_1 + 1))) else (none)) else (none)) else (none))) else (none)) else (none)) else (none)) else (none)) else (if 0 ≤ (wrap64 (2 * x6_1)) then (if (wrap64 (2 * x6_1)) < (x4_1.length : Int) then (if 0 ≤ (wrap64 ((wrap64 (2 * x6_1)) + 1)) then (if (wrap64 ((wrap64 (2 * x6_1)) + 1)) < (x4_1.length : Int) then (if ji2 = 0 then (none) else (if (wrap64 ((wrap64 (2 * x6_1)) + 1)) < (x5_1.length : Int) then (if 0 ≤ (Int.tmod (wrap64 ((wrap64 (2 * x6_1)) + 2)) ji2) then (if (Int.tmod (wrap64 ((wrap64 (2 * x6_1)) + 2)) ji2) < (x5_1.length : Int) then (spec_l8Corners.l0 k1 a0 ji2 ((x4_1.set ((wrap64 (2 * x6_1)) : Int).toNat (wrap64 ((wrap64 (2 * t236)) + 0))).set ((wrap64 ((wrap64 (2 * x6_1)) + 1)) : Int).toNat (wrap64 ((wrap64 ((wrap64 (2 * t236)) + 1)) - 0))) ((x5_1.set ((wrap64 ((wrap64 (2 * x6_1)) + 1)) : Int).toNat (Int.tmod (wrap64 ((wrap64 (2 * x6_1)) + 2)) ji2)).set ((Int.tmod (wrap64 ((wrap64 (2 * x6_1)) + 2)) ji2) : Int).toNat (wrap64 ((wrap64 (2 * x6_1)) + 1))) (wrap64 (x6_1 + 1))) else (none)) else (none)) else (none))) else (none)) else (none)) else (none)) else (none)))) else (none)) else (none))) else (none)) = some r := H
      have A10 := Aside0.mk A100
      clear A100
      by_cases c11 : 0 ≤ x6_1
      ·rw [if_pos c11] at H
       have c11b0 : decide (0 ≤ x6_1) = true := decide_eq_true c11
       clear c11
       replace H := Option.bind_eq_some_iff.mp H
       obtain ⟨t237, A130, H⟩ := H
       replace H : (if 0 ≤ t236 then (if t236 < (a0.size : Int) then ((spec_l8Small.f (bt a0 t236)).bind fun t238 => (if (t237 != t238) = true then (if 0 ≤ (wrap64 (2 * x6_1)) then (if (wrap64 (2 * x6_1)) < (x4_1.length : Int) then (if 0 ≤ (wrap64 ((wrap64 (2 * x6_1)) + 1)) then (if (wrap64 ((wrap64 (2 * x6_1)) + 1)) < (x4_1.length : Int) then (if ji2 = 0 then (none) else (if (wrap64 ((wrap64 (2 * x6_1)) + 1)) < (x5_1.length : Int) then (if 0 ≤ (Int.tmod (wrap64 ((wrap64 (2 * x6_1)) + 2)) ji2) then (if (Int.tmod (wrap64 ((wrap64 (2 * x6_1)) + 2)) ji2) < (x5_1.length : Int) then (spec_l8Corners.l0 k1 a0 ji2 ((x4_1.set ((wrap64 (2 * x6_1)) : Int).toNat (wrap64 ((wrap64 (2 * t236)) + 1))).set ((wrap64 ((wrap64 (2 * x6_1)) + 1)) : Int).toNat (wrap64 ((wrap64 ((wrap64 (2 * t236)) + 1)) - 1))) ((x5_1.set ((wrap64 ((wrap64 (2 * x6_1)) + 1)) : Int).toNat (Int.tmod (wrap64 ((wrap64 (2 * x6_1)) + 2)) ji2)).set ((Int.tmod (wrap64 ((wrap64 (2 * x6_1)) + 2)) ji2) : Int).toNat (wrap64 ((wrap64 (2 * x6_1)) + 1))) (wrap64 (x6_1 + 1))) else (none)) else (none)) else (none))) else (none)) else (none)) else (none)) else (none)) else (if 0 ≤ (wrap64 (2 * x6_1)) then (if (wrap64 (2 * x6_1)) < (x4_1.length : Int) then (if 0 ≤ (wrap64 ((wrap64 (2 * x6_1)) + 1)) then (if (wrap64 ((wrap64 (2 * x6_1)) + 1)) < (x4_1.length : Int) then (if ji2 = 0 then (none) else (if (wrap64 ((wrap64 (2 * x6_1)) + 1)) < (x5_1.length : Int) then (if 0 ≤ (Int.tmod (wrap64 ((wrap64 (2 * x6_1)) + 2)) ji2) then (if (Int.tmod (wrap64 ((wrap64 (2 * x6_1)) + 2)) ji2) < (x5_1.length : Int) then (spec_l8Corners.l0 k1 a0 ji2 ((x4_1.set ((wrap64 (2 * x6_1)) : Int).toNat (wrap64 ((wrap64 (2 * t236)) + 0))).set ((wrap64 ((wrap64 (2 * x6_1)) + 1)) : Int).toNat (wrap64 ((wrap64 ((wrap64 (2 * t236)) + 1)) - 0))) ((x5_1.set ((wrap64 ((wrap64 (2 * x6_1)) + 1)) : Int).toNat (Int.tmod (wrap64 ((wrap64 (2 * x6_1)) + 2)) ji2)).set ((Int.tmod (wrap64 ((wrap64 (2 * x6_1)) + 2)) ji2) : Int).toNat (wrap64 ((wrap64 (2 * x6_1)) + 1))) (wrap64 (x6_1 + 1))) else (none)) else (none)) else (none))) else (none)) else (none)) else (none)) else (none)))) else (none)) else (none)) = some r := H
       have A13 := Aside0.mk A130
       clear A130
       by_cases c14 : 0 ≤ t236
       ·rw [if_pos c14] at H
        have c14b0 : decide (0 ≤ t236) = true := decide_eq_true c14
        clear c14
        by_cases c15 : t236 < (a0.size : Int)
        ·rw [if_pos c15] at H
         have c15b0 : decide (t236 < (a0.size : Int)) = true := decide_eq_true c15
         clear c15
         replace H := Option.bind_eq_some_iff.mp H
         obtain ⟨t238, A170, H⟩ := H
         replace H : (if (t237 != t238) = true then (if 0 ≤ (wrap64 (2 * x6_1)) then (if (wrap64 (2 * x6_1)) < (x4_1.length : Int) then (if 0 ≤ (wrap64 ((wrap64 (2 * x6_1)) + 1)) then (if (wrap64 ((wrap64 (2 * x6_1)) + 1)) < (x4_1.length : Int) then (if ji2 = 0 then (none) else (if (wrap64 ((wrap64 (2 * x6_1)) + 1)) < (x5_1.length : Int) then (if 0 ≤ (Int.tmod (wrap64 ((wrap64 (2 * x6_1)) + 2)) ji2) then (if (Int.tmod (wrap64 ((wrap64 (2 * x6_1)) + 2)) ji2) < (x5_1.length : Int) then (spec_l8Corners.l0 k1 a0 ji2 ((x4_1.set ((wrap64 (2 * x6_1)) : Int).toNat (wrap64 ((wrap64 (2 * t236)) + 1))).set ((wrap64 ((wrap64 (2 * x6_1)) + 1)) : Int).toNat (wrap64 ((wrap64 ((wrap64 (2 * t236)) + 1)) - 1))) ((x5_1.set ((wrap64 ((wrap64 (2 * x6_1)) + 1)) : Int).toNat (Int.tmod (wrap64 ((wrap64 (2 * x6_1)) + 2)) ji2)).set ((Int.tmod (wrap64 ((wrap64 (2 * x6_1)) + 2)) ji2) : Int).toNat (wrap64 ((wrap64 (2 * x6_1)) + 1))) (wrap64 (x6_1 + 1))) else (none)) else (none)) else (none))) else (none)) else (none)) else (none)) else (none)) else (if 0 ≤ (wrap64 (2 * x6_1)) then (if (wrap64 (2 * x6_1)) < (x4_1.length : Int) then (if 0 ≤ (wrap64 ((wrap64 (2 * x6_1)) + 1)) then (if (wrap64 ((wrap64 (2 * x6_1)) + 1)) < (x4_1.length : Int) then (if ji2 = 0 then (none) else (if (wrap64 ((wrap64 (2 * x6_1)) + 1)) < (x5_1.length : Int) then (if 0 ≤ (Int.tmod (wrap64 ((wrap64 (2 * x6_1)) + 2)) ji2) then (if (Int.tmod (wrap64 ((wrap64 (2 * x6_1)) + 2)) ji2) < (x5_1.length : Int) then (spec_l8Corners.l0 k1 a0 ji2 ((x4_1.set ((wrap64 (2 * x6_1)) : Int).toNat (wrap64 ((wrap64 (2 * t236)) + 0))).set ((wrap64 ((wrap64 (2 * x6_1)) + 1)) : Int).toNat (wrap64 ((wrap64 ((wrap64 (2 * t236)) + 1)) - 0))) ((x5_1.set ((wrap64 ((wrap64 (2 * x6_1)) + 1)) : Int).toNat (Int.tmod (wrap64 ((wrap64 (2 * x6_1)) + 2)) ji2)).set ((Int.tmod (wrap64 ((wrap64 (2 * x6_1)) + 2)) ji2) : Int).toNat (wrap64 ((wrap64 (2 * x6_1)) + 1))) (wrap64 (x6_1 + 1))) else (none)) else (none)) else (none))) else (none)) else (none)) else (none)) else (none))) = some r := H
         have A17 := Aside0.mk A170
         clear A170
         by_cases c18 : (t237 != t238) = true
         ·rw [if_pos c18] at H
          have c18b0 : (t237 != t238) = true := c18
          (try (have c18b1 : decide (t237 = t238) = false := by simpa using c18))
          (try (have c18b2 : (t237 == t238) = false := by simpa using c18))
          (try (have c18b3 : ¬ (t237 = t238) := by simpa using c18))
          clear c18
          obtain ⟨ji19, hji19⟩ : ∃ j_ : Int, (wrap64 (2 * x6_1)) = j_ := ⟨_, rfl⟩
          replace H : (if 0 ≤ (ji19) then (if (ji19) < (x4_1.length : Int) then (if 0 ≤ (wrap64 ((ji19) + 1)) then (if (wrap64 ((ji19) + 1)) < (x4_1.length : Int) then (if ji2 = 0 then (none) else (if (wrap64 ((ji19) + 1)) < (x5_1.length : Int) then (if 0 ≤ (Int.tmod (wrap64 ((ji19) + 2)) ji2) then (if (Int.tmod (wrap64 ((ji19) + 2)) ji2) < (x5_1.length : Int) then (spec_l8Corners.l0 k1 a0 ji2 ((x4_1.set ((ji19) : Int).toNat (wrap64 ((wrap64 (2 * t236)) + 1))).set ((wrap64 ((ji19) + 1)) : Int).toNat (wrap64 ((wrap64 ((wrap64 (2 * t236)) + 1)) - 1))) ((x5_1.set ((wrap64 ((ji19) + 1)) : Int).toNat (Int.tmod (wrap64 ((ji19) + 2)) ji2)).set ((Int.tmod (wrap64 ((ji19) + 2)) ji2) : Int).toNat (wrap64 ((ji19) + 1))) (wrap64 (x6_1 + 1))) else (none)) else (none)) else (none))) else (none)) else (none)) else (none)) else (none)) = some r := by first | (rw [hji19] at H; exact H) | (simp only [hji19] at H ⊢; exact H)
          (try rw [hji19] at A10)
          (try rw [hji19] at A13)
          (try rw [hji19] at A17)
          have hji19w : (IntKind.i64.wrap (2 * x6_1)) = ji19 := (i64_w _).trans hji19
          by_cases c20 : 0 ≤ (ji19)
          ·rw [if_pos c20] at H
           have c20b0 : decide (0 ≤ (ji19)) = true := decide_eq_true c20
           clear c20
           by_cases c21 : (ji19) < (x4_1.length : Int)
           ·rw [if_pos c21] at H
            have c21b0 : decide ((ji19) < (x4_1.length : Int)) = true := decide_eq_true c21
            clear c21
            obtain ⟨y239, hy239⟩ : ∃ y_ : List Int, y_ = (x4_1.set ((ji19) : Int).toNat (wrap64 ((wrap64 (2 * t236)) + 1))) := ⟨_, rfl⟩
            replace H : (if 0 ≤ (wrap64 ((ji19) + 1)) then (if (wrap64 ((ji19) + 1)) < (x4_1.length : Int) then (if ji2 = 0 then (none) else (if (wrap64 ((ji19) + 1)) < (x5_1.length : Int) then (if 0 ≤ (Int.tmod (wrap64 ((ji19) + 2)) ji2) then (if (Int.tmod (wrap64 ((ji19) + 2)) ji2) < (x5_1.length : Int) then (spec_l8Corners.l0 k1 a0 ji2 (y239.set ((wrap64 ((ji19) + 1)) : Int).toNat (wrap64 ((wrap64 ((wrap64 (2 * t236)) + 1)) - 1))) ((x5_1.set ((wrap64 ((ji19) + 1)) : Int).toNat (Int.tmod (wrap64 ((ji19) + 2)) ji2)).set ((Int.tmod (wrap64 ((ji19) + 2)) ji2) : Int).toNat (wrap64 ((ji19) + 1))) (wrap64 (x6_1 + 1))) else (none)) else (none)) else (none))) else (none)) else (none)) = some r := by first | (rw [hy239]; with_reducible exact H) | (have H2_ := (Option.bind_some _ _).symm.trans H; rw [hy239]; with_reducible exact H2_) | (have H2_ := (Option.bind_some _ _).symm.trans H; with_reducible exact H2_) | with_reducible exact H | (rw [hy239]; exact H) | exact H
            have Ny239 := Aside0.mk hy239
            clear hy239
            obtain ⟨ji23, hji23⟩ : ∃ j_ : Int, (wrap64 ((ji19) + 1)) = j_ := ⟨_, rfl⟩
            replace H : (if 0 ≤ (ji23) then (if (ji23) < (x4_1.length : Int) then (if ji2 = 0 then (none) else (if (ji23) < (x5_1.length : Int) then (if 0 ≤ (Int.tmod (wrap64 ((ji19) + 2)) ji2) then (if (Int.tmod (wrap64 ((ji19) + 2)) ji2) < (x5_1.length : Int) then (spec_l8Corners.l0 k1 a0 ji2 (y239.set ((ji23) : Int).toNat (wrap64 ((wrap64 ((wrap64 (2 * t236)) + 1)) - 1))) ((x5_1.set ((ji23) : Int).toNat (Int.tmod (wrap64 ((ji19) + 2)) ji2)).set ((Int.tmod (wrap64 ((ji19) + 2)) ji2) : Int).toNat (ji23)) (wrap64 (x6_1 + 1))) else (none)) else (none)) else (none))) else (none)) else (none)) = some r := by first | (rw [hji23] at H; exact H) | (simp only [hji23] at H ⊢; exact H)
            (try rw [hji23] at A10)
            (try rw [hji23] at A13)
            (try rw [hji23] at A17)
            have hji23w : (IntKind.i64.wrap ((ji19) + 1)) = ji23 := (i64_w _).trans hji23
            by_cases c24 : 0 ≤ (ji23)
            ·rw [if_pos c24] at H
             have c24b0 : decide (0 ≤ (ji23)) = true := decide_eq_true c24
             clear c24
             by_cases c25 : (ji23) < (x4_1.length : Int)
             ·rw [if_pos c25] at H
              have c25b0 : decide ((ji23) < (x4_1.length : Int)) = true := decide_eq_true c25
              clear c25
              obtain ⟨y240, hy240⟩ : ∃ y_ : List Int, y_ = (y239.set ((ji23) : Int).toNat (wrap64 ((wrap64 ((wrap64 (2 * t236)) + 1)) - 1))) := ⟨_, rfl⟩
              replace H : (if ji2 = 0 then (none) else (if (ji23) < (x5_1.length : Int) then (if 0 ≤ (Int.tmod (wrap64 ((ji19) + 2)) ji2) then (if (Int.tmod (wrap64 ((ji19) + 2)) ji2) < (x5_1.length : Int) then (spec_l8Corners.l0 k1 a0 ji2 y240 ((x5_1.set ((ji23) : Int).toNat (Int.tmod (wrap64 ((ji19) + 2)) ji2)).set ((Int.tmod (wrap64 ((ji19) + 2)) ji2) : Int).toNat (ji23)) (wrap64 (x6_1 + 1))) else (none)) else (none)) else (none))) = some r := by first | (rw [hy240]; with_reducible exact H) | (have H2_ := (Option.bind_some _ _).symm.trans H; rw [hy240]; with_reducible exact H2_) | (have H2_ := (Option.bind_some _ _).symm.trans H; with_reducible exact H2_) | with_reducible exact H | (rw [hy240]; exact H) | exact H
              have Ny240 := Aside0.mk hy240
              clear hy240
              by_cases c27 : ji2 = 0
              ·rw [if_pos c27] at H
               exact absurd H (by simp)
              ·rw [if_neg c27] at H
               have c27b0 : (ji2 == 0) = false := beq_eq_false_iff_ne.mpr c27
               have c27b1 : (ji2 != 0) = true := bne_iff_ne.mpr c27
               by_cases c28 : (ji23) < (x5_1.length : Int)
               ·rw [if_pos c28] at H
                have c28b0 : decide ((ji23) < (x5_1.length : Int)) = true := decide_eq_true c28
                clear c28
                obtain ⟨y241, hy241⟩ : ∃ y_ : List Int, y_ = (x5_1.set ((ji23) : Int).toNat (Int.tmod (wrap64 ((ji19) + 2)) ji2)) := ⟨_, rfl⟩
                replace H : (if 0 ≤ (Int.tmod (wrap64 ((ji19) + 2)) ji2) then (if (Int.tmod (wrap64 ((ji19) + 2)) ji2) < (x5_1.length : Int) then (spec_l8Corners.l0 k1 a0 ji2 y240 (y241.set ((Int.tmod (wrap64 ((ji19) + 2)) ji2) : Int).toNat (ji23)) (wrap64 (x6_1 + 1))) else (none)) else (none)) = some r := by first | (rw [hy241]; with_reducible exact H) | (have H2_ := (Option.bind_some _ _).symm.trans H; rw [hy241]; with_reducible exact H2_) | (have H2_ := (Option.bind_some _ _).symm.trans H; with_reducible exact H2_) | with_reducible exact H | (rw [hy241]; exact H) | exact H
                have Ny241 := Aside0.mk hy241
                clear hy241
                obtain ⟨ji30, hji30⟩ : ∃ j_ : Int, (Int.tmod (wrap64 ((ji19) + 2)) ji2) = j_ := ⟨_, rfl⟩
                replace H : (if 0 ≤ (ji30) then (if (ji30) < (x5_1.length : Int) then (spec_l8Corners.l0 k1 a0 ji2 y240 (y241.set ((ji30) : Int).toNat (ji23)) (wrap64 (x6_1 + 1))) else (none)) else (none)) = some r := by first | (rw [hji30] at H; exact H) | (simp only [hji30] at H ⊢; exact H)
                (try rw [hji30] at A10)
                (try rw [hji30] at A13)
                (try rw [hji30] at A17)
                (try rw [hji30] at Ny241)
                by_cases c31 : 0 ≤ (ji30)
                ·rw [if_pos c31] at H
                 have c31b0 : decide (0 ≤ (ji30)) = true := decide_eq_true c31
                 clear c31
                 by_cases c32 : (ji30) < (x5_1.length : Int)
                 ·rw [if_pos c32] at H
                  have c32b0 : decide ((ji30) < (x5_1.length : Int)) = true := decide_eq_true c32
                  clear c32
                  obtain ⟨y242, hy242⟩ : ∃ y_ : List Int, y_ = (y241.set ((ji30) : Int).toNat (ji23)) := ⟨_, rfl⟩
                  replace H : (spec_l8Corners.l0 k1 a0 ji2 y240 y242 (wrap64 (x6_1 + 1))) = some r := by first | (rw [hy242]; with_reducible exact H) | (have H2_ := (Option.bind_some _ _).symm.trans H; rw [hy242]; with_reducible exact H2_) | (have H2_ := (Option.bind_some _ _).symm.trans H; with_reducible exact H2_) | with_reducible exact H | (rw [hy242]; exact H) | exact H
                  have Ny242 := Aside0.mk hy242
                  clear hy242
                  have H' := Aside0.mk H
                  clear H
                  go_wp2_with (first | (go_at_call 29; (with_reducible refine (spec_l8Partner.calls k1 a0 x6_1 t236 _ A10.out).mono ?_); rintro e w' ⟨rfl, ⟨nd, rfl⟩⟩; (try first | exact ⟨rfl, _, World.drewN_drewN _ _ _⟩ | exact ⟨rfl, _, Eq.trans (World.drewN_drewN _ _ _) (congrArg (World.drewN _) (Nat.add_assoc _ _ _))⟩); have p12 : 0 ≤ (x6_1 : Int) := of_decide_eq_true (by first | (with_reducible assumption) | assumption); have q12 : x6_1 < (a0.size : Int) := of_decide_eq_true (by first | (with_reducible assumption) | assumption); have hx12 := bt_at a0 x6_1; replace p12 := eq_true p12; replace q12 := eq_true q12) | (go_at_call 45; (with_reducible refine (spec_l8Small.calls (bt a0 x6_1) t237 _ A13.out).mono ?_); rintro e w' ⟨rfl, ⟨nd, rfl⟩⟩; (try first | exact ⟨rfl, _, World.drewN_drewN _ _ _⟩ | exact ⟨rfl, _, Eq.trans (World.drewN_drewN _ _ _) (congrArg (World.drewN _) (Nat.add_assoc _ _ _))⟩); have p16 : 0 ≤ (t236 : Int) := of_decide_eq_true (by first | (with_reducible assumption) | assumption); have q16 : t236 < (a0.size : Int) := of_decide_eq_true (by first | (with_reducible assumption) | assumption); have hx16 := bt_at a0 t236; replace p16 := eq_true p16; replace q16 := eq_true q16) | (go_at_call 45; (with_reducible refine (spec_l8Small.calls (bt a0 t236) t238 _ A17.out).mono ?_); rintro e w' ⟨rfl, ⟨nd, rfl⟩⟩; (try first | exact ⟨rfl, _, World.drewN_drewN _ _ _⟩ | exact ⟨rfl, _, Eq.trans (World.drewN_drewN _ _ _) (congrArg (World.drewN _) (Nat.add_assoc _ _ _))⟩); have p22 : 0 ≤ ((ji19) : Int) := of_decide_eq_true (by first | (with_reducible assumption) | assumption); have q22 : ((ji19) : Int) < ((x4_1.length : Int) : Int) := of_decide_eq_true (by first | (with_reducible assumption) | assumption); obtain ⟨go22, co22, eo22, gb22, gl22, cl22, HG22⟩ := Kd.R_form HO_4.out (by omega); (first | cases eo22 | (injection eo22 with ea_ en_ ec_; (first | subst ea_ | (injection ea_ with ea_; subst ea_)); subst ec_; clear en_)); have GB22 := Aside0.mk gb22; have GG22 := Aside0.mk HG22; clear gb22 gl22 HG22; obtain ⟨hx22_0, hf22_0⟩ := Kd.R_celln 0 HO_4.out ((ji19) : Int) p22 q22; replace p22 := eq_true p22; replace q22 := eq_true q22; obtain ⟨hy34_, hz34_⟩ := Kd.R_celln 0 HO_4.out ((ji19) : Int) (of_decide_eq_true (by first | (with_reducible assumption) | assumption)) (of_decide_eq_true (by first | (with_reducible assumption) | assumption)); have HP34 := Kd.R_putg HO_4.out ((ji19) : Int) (wrap64 ((wrap64 (2 * t236)) + 1))) | ((with_reducible refine gate_store (t := 3) (p := 44) rfl ?_); (try (rw [drewN_self wr]; generalize hq_ : World.drewN wr _ = wr; have n0_ := Aside0.mk (Kd.R_at hq_ HO_4.out); have n1_ := Aside0.mk (Kd.R_at hq_ HO_5.out); have n2_ := Aside0.mk (below_at hq_ HB.out); clear hq_ HO_4 HO_5 HB; have HO_4 := n0_; have HO_5 := n1_; have HB := n2_; clear n0_ n1_ n2_; (try (obtain ⟨hy34_, hz34_⟩ := Kd.R_celln 0 HO_4.out ((ji19) : Int) (of_decide_eq_true (by first | (with_reducible assumption) | assumption)) (of_decide_eq_true (by first | (with_reducible assumption) | assumption)))); (try (have HP34 := Kd.R_putg HO_4.out ((ji19) : Int) (wrap64 ((wrap64 (2 * t236)) + 1)))))); refine store_event (t := 3) (p := 44) (v := ?vo_w35) (w1 := (wr.setCell ⟨go22, ((ji19) : Int).toNat, none⟩ (.int .i64 (wrap64 ((wrap64 (2 * t236)) + 1))))) ?hg ?ho ?hn ?hr ?_; (case ho => rfl); (case hg => rfl); (case hn => rfl); (case hr => first | (go_simp; done) | (go_simp; rfl)); intro w35 hw; have hg : wr.grownBy w35 (some go22) := (by rw [hw]; exact HP34.2); have hp_ : Kd.R (Kd.int .i64) 3 w35 w.heap.size (fun k_ => some k_ ≠ (v234 : Value).ownBlock) (.slice (some ⟨go22, 0, none⟩) x4_1.length co22) y239 := (by rw [hw, Ny239.out]; exact HP34.1); clear HP34; have n0_ := Aside0.mk (hp_); have n1_ := Aside0.mk (Kd.R_after (v := (.slice (some ⟨go22, 0, none⟩) x4_1.length co22)) (v1 := (.slice (some ⟨go22, 0, none⟩) x4_1.length co22)) (ok := (fun _ => True)) (by (with_reducible repeat (first | apply Kd.R_alloc | apply Kd.R_drewN | apply Kd.R_drew)); exact Kd.R_mono HO_5.out (fun _ hk => ⟨trivial, hk⟩)) hg (.inl rfl)); have n2_ := Aside0.mk ((by rw [hw]; exact below_set (HB.out) GB22.out : Below w.heap.size w w35)); clear HO_4; clear HO_5; clear HB; have HO_4 := n0_; have HO_5 := n1_; have HB := n2_; clear n0_ n1_ n2_; clear hg hw hp_; have p26 : 0 ≤ ((ji23) : Int) := of_decide_eq_true (by first | (with_reducible assumption) | assumption); have q26 : ((ji23) : Int) < ((x4_1.length : Int) : Int) := of_decide_eq_true (by first | (with_reducible assumption) | assumption); obtain ⟨hx26_0, hf26_0⟩ := Kd.R_celln 0 HO_4.out ((ji23) : Int) p26 q26; replace p26 := eq_true p26; replace q26 := eq_true q26; obtain ⟨hy36_, hz36_⟩ := Kd.R_celln 0 HO_4.out ((ji23) : Int) (of_decide_eq_true (by first | (with_reducible assumption) | assumption)) (of_decide_eq_true (by first | (with_reducible assumption) | assumption)); have HP36 := Kd.R_putg HO_4.out ((ji23) : Int) (wrap64 ((wrap64 ((wrap64 (2 * t236)) + 1)) - 1))) | ((with_reducible refine gate_store (t := 3) (p := 54) rfl ?_); (try (rw [drewN_self w35]; generalize hq_ : World.drewN w35 _ = w35; have n0_ := Aside0.mk (Kd.R_at hq_ HO_4.out); have n1_ := Aside0.mk (Kd.R_at hq_ HO_5.out); have n2_ := Aside0.mk (below_at hq_ HB.out); clear hq_ HO_4 HO_5 HB; have HO_4 := n0_; have HO_5 := n1_; have HB := n2_; clear n0_ n1_ n2_; (try (obtain ⟨hy36_, hz36_⟩ := Kd.R_celln 0 HO_4.out ((ji23) : Int) (of_decide_eq_true (by first | (with_reducible assumption) | assumption)) (of_decide_eq_true (by first | (with_reducible assumption) | assumption)))); (try (have HP36 := Kd.R_putg HO_4.out ((ji23) : Int) (wrap64 ((wrap64 ((wrap64 (2 * t236)) + 1)) - 1)))))); refine store_event (t := 3) (p := 54) (v := ?vo_w37) (w1 := (w35.setCell ⟨go22, ((ji23) : Int).toNat, none⟩ (.int .i64 (wrap64 ((wrap64 ((wrap64 (2 * t236)) + 1)) - 1))))) ?hg ?ho ?hn ?hr ?_; (case ho => rfl); (case hg => rfl); (case hn => rfl); (case hr => first | (go_simp; done) | (go_simp; rfl)); intro w37 hw; have hg : w35.grownBy w37 (some go22) := (by rw [hw]; exact HP36.2); have hp_ : Kd.R (Kd.int .i64) 3 w37 w.heap.size (fun k_ => some k_ ≠ (v234 : Value).ownBlock) (.slice (some ⟨go22, 0, none⟩) x4_1.length co22) y240 := (by rw [hw, Ny240.out]; exact HP36.1); clear HP36; have n0_ := Aside0.mk (hp_); have n1_ := Aside0.mk (Kd.R_after (v := (.slice (some ⟨go22, 0, none⟩) x4_1.length co22)) (v1 := (.slice (some ⟨go22, 0, none⟩) x4_1.length co22)) (ok := (fun _ => True)) (by (with_reducible repeat (first | apply Kd.R_alloc | apply Kd.R_drewN | apply Kd.R_drew)); exact HO_5.out) hg (.inl rfl)); have n2_ := Aside0.mk ((by rw [hw]; exact below_set (HB.out) GB22.out : Below w.heap.size w w37)); clear HO_4; clear HO_5; clear HB; have HO_4 := n0_; have HO_5 := n1_; have HB := n2_; clear n0_ n1_ n2_; clear hg hw hp_; have p29 : 0 ≤ ((ji23) : Int) := of_decide_eq_true (by first | (with_reducible assumption) | assumption); have q29 : ((ji23) : Int) < ((x5_1.length : Int) : Int) := of_decide_eq_true (by first | (with_reducible assumption) | assumption); obtain ⟨go29, co29, eo29, gb29, gl29, cl29, HG29⟩ := Kd.R_form HO_5.out (by omega); (first | cases eo29 | (injection eo29 with ea_ en_ ec_; (first | subst ea_ | (injection ea_ with ea_; subst ea_)); subst ec_; clear en_)); have GB29 := Aside0.mk gb29; have GG29 := Aside0.mk HG29; clear gb29 gl29 HG29; obtain ⟨hx29_0, hf29_0⟩ := Kd.R_celln 0 HO_5.out ((ji23) : Int) p29 q29; replace p29 := eq_true p29; replace q29 := eq_true q29; have n_ := Aside0.mk (Kd.R_mono (ok' := (fun k_ => some k_ ≠ (.slice (some ⟨go22, 0, none⟩) x4_1.length co22 : Value).ownBlock)) HO_5.out (fun k_ hk => hk.2)); clear HO_5; have HO_5 := n_; clear n_; obtain ⟨hy38_, hz38_⟩ := Kd.R_celln 0 HO_5.out ((ji23) : Int) (of_decide_eq_true (by first | (with_reducible assumption) | assumption)) (of_decide_eq_true (by first | (with_reducible assumption) | assumption)); have HP38 := Kd.R_putg HO_5.out ((ji23) : Int) ji30) | ((with_reducible refine gate_store (t := 3) (p := 64) rfl ?_); (try (rw [drewN_self w37]; generalize hq_ : World.drewN w37 _ = w37; have n0_ := Aside0.mk (Kd.R_at hq_ HO_4.out); have n1_ := Aside0.mk (Kd.R_at hq_ HO_5.out); have n2_ := Aside0.mk (below_at hq_ HB.out); clear hq_ HO_4 HO_5 HB; have HO_4 := n0_; have HO_5 := n1_; have HB := n2_; clear n0_ n1_ n2_; (try (have n_ := Aside0.mk (Kd.R_mono (ok' := (fun k_ => some k_ ≠ (.slice (some ⟨go22, 0, none⟩) x4_1.length co22 : Value).ownBlock)) HO_5.out (fun k_ hk => hk.2)); clear HO_5; have HO_5 := n_; clear n_)); (try (obtain ⟨hy38_, hz38_⟩ := Kd.R_celln 0 HO_5.out ((ji23) : Int) (of_decide_eq_true (by first | (with_reducible assumption) | assumption)) (of_decide_eq_true (by first | (with_reducible assumption) | assumption)))); (try (have HP38 := Kd.R_putg HO_5.out ((ji23) : Int) ji30)))); refine store_event (t := 3) (p := 64) (v := ?vo_w39) (w1 := (w37.setCell ⟨go29, ((ji23) : Int).toNat, none⟩ (.int .i64 ji30))) ?hg ?ho ?hn ?hr ?_; (case ho => rfl); (case hg => rfl); (case hn => rfl); (case hr => first | (go_simp; done) | (go_simp; rfl)); intro w39 hw; have hg : w37.grownBy w39 (some go29) := (by rw [hw]; exact HP38.2); have hp_ : Kd.R (Kd.int .i64) 3 w39 w.heap.size (fun k_ => some k_ ≠ (.slice (some ⟨go22, 0, none⟩) x4_1.length co22 : Value).ownBlock) (.slice (some ⟨go29, 0, none⟩) x5_1.length co29) y241 := (by rw [hw, Ny241.out]; exact HP38.1); clear HP38; have n0_ := Aside0.mk (Kd.R_after (v := (.slice (some ⟨go29, 0, none⟩) x5_1.length co29)) (v1 := (.slice (some ⟨go29, 0, none⟩) x5_1.length co29)) (ok := (fun _ => True)) (by (with_reducible repeat (first | apply Kd.R_alloc | apply Kd.R_drewN | apply Kd.R_drew)); exact Kd.R_mono HO_4.out (fun _ hk => ⟨trivial, hk⟩)) hg (.inl rfl)); have n1_ := Aside0.mk (hp_); have n2_ := Aside0.mk ((by rw [hw]; exact below_set (HB.out) GB29.out : Below w.heap.size w w39)); clear HO_4; clear HO_5; clear HB; have HO_4 := n0_; have HO_5 := n1_; have HB := n2_; clear n0_ n1_ n2_; clear hg hw hp_; have p33 : 0 ≤ ((ji30) : Int) := of_decide_eq_true (by first | (with_reducible assumption) | assumption); have q33 : ((ji30) : Int) < ((x5_1.length : Int) : Int) := of_decide_eq_true (by first | (with_reducible assumption) | assumption); obtain ⟨hx33_0, hf33_0⟩ := Kd.R_celln 0 HO_5.out ((ji30) : Int) p33 q33; replace p33 := eq_true p33; replace q33 := eq_true q33; obtain ⟨hy40_, hz40_⟩ := Kd.R_celln 0 HO_5.out ((ji30) : Int) (of_decide_eq_true (by first | (with_reducible assumption) | assumption)) (of_decide_eq_true (by first | (with_reducible assumption) | assumption)); have HP40 := Kd.R_putg HO_5.out ((ji30) : Int) ji23) | ((with_reducible refine gate_store (t := 3) (p := 74) rfl ?_); (try (rw [drewN_self w39]; generalize hq_ : World.drewN w39 _ = w39; have n0_ := Aside0.mk (Kd.R_at hq_ HO_4.out); have n1_ := Aside0.mk (Kd.R_at hq_ HO_5.out); have n2_ := Aside0.mk (below_at hq_ HB.out); clear hq_ HO_4 HO_5 HB; have HO_4 := n0_; have HO_5 := n1_; have HB := n2_; clear n0_ n1_ n2_; (try (obtain ⟨hy40_, hz40_⟩ := Kd.R_celln 0 HO_5.out ((ji30) : Int) (of_decide_eq_true (by first | (with_reducible assumption) | assumption)) (of_decide_eq_true (by first | (with_reducible assumption) | assumption)))); (try (have HP40 := Kd.R_putg HO_5.out ((ji30) : Int) ji23)))); refine store_event (t := 3) (p := 74) (v := ?vo_w41) (w1 := (w39.setCell ⟨go29, ((ji30) : Int).toNat, none⟩ (.int .i64 ji23))) ?hg ?ho ?hn ?hr ?_; (case ho => rfl); (case hg => rfl); (case hn => rfl); (case hr => first | (go_simp; done) | (go_simp; rfl)); intro w41 hw; have hg : w39.grownBy w41 (some go29) := (by rw [hw]; exact HP40.2); have hp_ : Kd.R (Kd.int .i64) 3 w41 w.heap.size (fun k_ => some k_ ≠ (.slice (some ⟨go22, 0, none⟩) x4_1.length co22 : Value).ownBlock) (.slice (some ⟨go29, 0, none⟩) x5_1.length co29) y242 := (by rw [hw, Ny242.out]; exact HP40.1); clear HP40; have n0_ := Aside0.mk (Kd.R_after (v := (.slice (some ⟨go29, 0, none⟩) x5_1.length co29)) (v1 := (.slice (some ⟨go29, 0, none⟩) x5_1.length co29)) (ok := (fun _ => True)) (by (with_reducible repeat (first | apply Kd.R_alloc | apply Kd.R_drewN | apply Kd.R_drew)); exact HO_4.out) hg (.inl rfl)); have n1_ := Aside0.mk (hp_); have n2_ := Aside0.mk ((by rw [hw]; exact below_set (HB.out) GB29.out : Below w.heap.size w w41)); clear HO_4; clear HO_5; clear HB; have HO_4 := n0_; have HO_5 := n1_; have HB := n2_; clear n0_ n1_ n2_; clear hg hw hp_))
                  repeat (go_quiet (first | (go_at_call 29; (with_reducible refine (spec_l8Partner.calls k1 a0 x6_1 t236 _ A10.out).mono ?_); rintro e w' ⟨rfl, ⟨nd, rfl⟩⟩; (try first | exact ⟨rfl, _, World.drewN_drewN _ _ _⟩ | exact ⟨rfl, _, Eq.trans (World.drewN_drewN _ _ _) (congrArg (World.drewN _) (Nat.add_assoc _ _ _))⟩); have p12 : 0 ≤ (x6_1 : Int) := of_decide_eq_true (by first | (with_reducible assumption) | assumption); have q12 : x6_1 < (a0.size : Int) := of_decide_eq_true (by first | (with_reducible assumption) | assumption); have hx12 := bt_at a0 x6_1; replace p12 := eq_true p12; replace q12 := eq_true q12) | (go_at_call 45; (with_reducible refine (spec_l8Small.calls (bt a0 x6_1) t237 _ A13.out).mono ?_); rintro e w' ⟨rfl, ⟨nd, rfl⟩⟩; (try first | exact ⟨rfl, _, World.drewN_drewN _ _ _⟩ | exact ⟨rfl, _, Eq.trans (World.drewN_drewN _ _ _) (congrArg (World.drewN _) (Nat.add_assoc _ _ _))⟩); have p16 : 0 ≤ (t236 : Int) := of_decide_eq_true (by first | (with_reducible assumption) | assumption); have q16 : t236 < (a0.size : Int) := of_decide_eq_true (by first | (with_reducible assumption) | assumption); have hx16 := bt_at a0 t236; replace p16 := eq_true p16; replace q16 := eq_true q16) | (go_at_call 45; (with_reducible refine (spec_l8Small.calls (bt a0 t236) t238 _ A17.out).mono ?_); rintro e w' ⟨rfl, ⟨nd, rfl⟩⟩; (try first | exact ⟨rfl, _, World.drewN_drewN _ _ _⟩ | exact ⟨rfl, _, Eq.trans (World.drewN_drewN _ _ _) (congrArg (World.drewN _) (Nat.add_assoc _ _ _))⟩); have p22 : 0 ≤ ((ji19) : Int) := of_decide_eq_true (by first | (with_reducible assumption) | assumption); have q22 : ((ji19) : Int) < ((x4_1.length : Int) : Int) := of_decide_eq_true (by first | (with_reducible assumption) | assumption); obtain ⟨go22, co22, eo22, gb22, gl22, cl22, HG22⟩ := Kd.R_form HO_4.out (by omega); (first | cases eo22 | (injection eo22 with ea_ en_ ec_; (first | subst ea_ | (injection ea_ with ea_; subst ea_)); subst ec_; clear en_)); have GB22 := Aside0.mk gb22; have GG22 := Aside0.mk HG22; clear gb22 gl22 HG22; obtain ⟨hx22_0, hf22_0⟩ := Kd.R_celln 0 HO_4.out ((ji19) : Int) p22 q22; replace p22 := eq_true p22; replace q22 := eq_true q22; obtain ⟨hy34_, hz34_⟩ := Kd.R_celln 0 HO_4.out ((ji19) : Int) (of_decide_eq_true (by first | (with_reducible assumption) | assumption)) (of_decide_eq_true (by first | (with_reducible assumption) | assumption)); have HP34 := Kd.R_putg HO_4.out ((ji19) : Int) (wrap64 ((wrap64 (2 * t236)) + 1))) | ((with_reducible refine gate_store (t := 3) (p := 44) rfl ?_); (try (rw [drewN_self wr]; generalize hq_ : World.drewN wr _ = wr; have n0_ := Aside0.mk (Kd.R_at hq_ HO_4.out); have n1_ := Aside0.mk (Kd.R_at hq_ HO_5.out); have n2_ := Aside0.mk (below_at hq_ HB.out); clear hq_ HO_4 HO_5 HB; have HO_4 := n0_; have HO_5 := n1_; have HB := n2_; clear n0_ n1_ n2_; (try (obtain ⟨hy34_, hz34_⟩ := Kd.R_celln 0 HO_4.out ((ji19) : Int) (of_decide_eq_true (by first | (with_reducible assumption) | assumption)) (of_decide_eq_true (by first | (with_reducible assumption) | assumption)))); (try (have HP34 := Kd.R_putg HO_4.out ((ji19) : Int) (wrap64 ((wrap64 (2 * t236)) + 1)))))); refine store_event (t := 3) (p := 44) (v := ?vo_w35) (w1 := (wr.setCell ⟨go22, ((ji19) : Int).toNat, none⟩ (.int .i64 (wrap64 ((wrap64 (2 * t236)) + 1))))) ?hg ?ho ?hn ?hr ?_; (case ho => rfl); (case hg => rfl); (case hn => rfl); (case hr => first | (go_simp; done) | (go_simp; rfl)); intro w35 hw; have hg : wr.grownBy w35 (some go22) := (by rw [hw]; exact HP34.2); have hp_ : Kd.R (Kd.int .i64) 3 w35 w.heap.size (fun k_ => some k_ ≠ (v234 : Value).ownBlock) (.slice (some ⟨go22, 0, none⟩) x4_1.length co22) y239 := (by rw [hw, Ny239.out]; exact HP34.1); clear HP34; have n0_ := Aside0.mk (hp_); have n1_ := Aside0.mk (Kd.R_after (v := (.slice (some ⟨go22, 0, none⟩) x4_1.length co22)) (v1 := (.slice (some ⟨go22, 0, none⟩) x4_1.length co22)) (ok := (fun _ => True)) (by (with_reducible repeat (first | apply Kd.R_alloc | apply Kd.R_drewN | apply Kd.R_drew)); exact Kd.R_mono HO_5.out (fun _ hk => ⟨trivial, hk⟩)) hg (.inl rfl)); have n2_ := Aside0.mk ((by rw [hw]; exact below_set (HB.out) GB22.out : Below w.heap.size w w35)); clear HO_4; clear HO_5; clear HB; have HO_4 := n0_; have HO_5 := n1_; have HB := n2_; clear n0_ n1_ n2_; clear hg hw hp_; have p26 : 0 ≤ ((ji23) : Int) := of_decide_eq_true (by first | (with_reducible assumption) | assumption); have q26 : ((ji23) : Int) < ((x4_1.length : Int) : Int) := of_decide_eq_true (by first | (with_reducible assumption) | assumption); obtain ⟨hx26_0, hf26_0⟩ := Kd.R_celln 0 HO_4.out ((ji23) : Int) p26 q26; replace p26 := eq_true p26; replace q26 := eq_true q26; obtain ⟨hy36_, hz36_⟩ := Kd.R_celln 0 HO_4.out ((ji23) : Int) (of_decide_eq_true (by first | (with_reducible assumption) | assumption)) (of_decide_eq_true (by first | (with_reducible assumption) | assumption)); have HP36 := Kd.R_putg HO_4.out ((ji23) : Int) (wrap64 ((wrap64 ((wrap64 (2 * t236)) + 1)) - 1))) | ((with_reducible refine gate_store (t := 3) (p := 54) rfl ?_); (try (rw [drewN_self w35]; generalize hq_ : World.drewN w35 _ = w35; have n0_ := Aside0.mk (Kd.R_at hq_ HO_4.out); have n1_ := Aside0.mk (Kd.R_at hq_ HO_5.out); have n2_ := Aside0.mk (below_at hq_ HB.out); clear hq_ HO_4 HO_5 HB; have HO_4 := n0_; have HO_5 := n1_; have HB := n2_; clear n0_ n1_ n2_; (try (obtain ⟨hy36_, hz36_⟩ := Kd.R_celln 0 HO_4.out ((ji23) : Int) (of_decide_eq_true (by first | (with_reducible assumption) | assumption)) (of_decide_eq_true (by first | (with_reducible assumption) | assumption)))); (try (have HP36 := Kd.R_putg HO_4.out ((ji23) : Int) (wrap64 ((wrap64 ((wrap64 (2 * t236)) + 1)) - 1)))))); refine store_event (t := 3) (p := 54) (v := ?vo_w37) (w1 := (w35.setCell ⟨go22, ((ji23) : Int).toNat, none⟩ (.int .i64 (wrap64 ((wrap64 ((wrap64 (2 * t236)) + 1)) - 1))))) ?hg ?ho ?hn ?hr ?_; (case ho => rfl); (case hg => rfl); (case hn => rfl); (case hr => first | (go_simp; done) | (go_simp; rfl)); intro w37 hw; have hg : w35.grownBy w37 (some go22) := (by rw [hw]; exact HP36.2); have hp_ : Kd.R (Kd.int .i64) 3 w37 w.heap.size (fun k_ => some k_ ≠ (v234 : Value).ownBlock) (.slice (some ⟨go22, 0, none⟩) x4_1.length co22) y240 := (by rw [hw, Ny240.out]; exact HP36.1); clear HP36; have n0_ := Aside0.mk (hp_); have n1_ := Aside0.mk (Kd.R_after (v := (.slice (some ⟨go22, 0, none⟩) x4_1.length co22)) (v1 := (.slice (some ⟨go22, 0, none⟩) x4_1.length co22)) (ok := (fun _ => True)) (by (with_reducible repeat (first | apply Kd.R_alloc | apply Kd.R_drewN | apply Kd.R_drew)); exact HO_5.out) hg (.inl rfl)); have n2_ := Aside0.mk ((by rw [hw]; exact below_set (HB.out) GB22.out : Below w.heap.size w w37)); clear HO_4; clear HO_5; clear HB; have HO_4 := n0_; have HO_5 := n1_; have HB := n2_; clear n0_ n1_ n2_; clear hg hw hp_; have p29 : 0 ≤ ((ji23) : Int) := of_decide_eq_true (by first | (with_reducible assumption) | assumption); have q29 : ((ji23) : Int) < ((x5_1.length : Int) : Int) := of_decide_eq_true (by first | (with_reducible assumption) | assumption); obtain ⟨go29, co29, eo29, gb29, gl29, cl29, HG29⟩ := Kd.R_form HO_5.out (by omega); (first | cases eo29 | (injection eo29 with ea_ en_ ec_; (first | subst ea_ | (injection ea_ with ea_; subst ea_)); subst ec_; clear en_)); have GB29 := Aside0.mk gb29; have GG29 := Aside0.mk HG29; clear gb29 gl29 HG29; obtain ⟨hx29_0, hf29_0⟩ := Kd.R_celln 0 HO_5.out ((ji23) : Int) p29 q29; replace p29 := eq_true p29; replace q29 := eq_true q29; have n_ := Aside0.mk (Kd.R_mono (ok' := (fun k_ => some k_ ≠ (.slice (some ⟨go22, 0, none⟩) x4_1.length co22 : Value).ownBlock)) HO_5.out (fun k_ hk => hk.2)); clear HO_5; have HO_5 := n_; clear n_; obtain ⟨hy38_, hz38_⟩ := Kd.R_celln 0 HO_5.out ((ji23) : Int) (of_decide_eq_true (by first | (with_reducible assumption) | assumption)) (of_decide_eq_true (by first | (with_reducible assumption) | assumption)); have HP38 := Kd.R_putg HO_5.out ((ji23) : Int) ji30) | ((with_reducible refine gate_store (t := 3) (p := 64) rfl ?_); (try (rw [drewN_self w37]; generalize hq_ : World.drewN w37 _ = w37; have n0_ := Aside0.mk (Kd.R_at hq_ HO_4.out); have n1_ := Aside0.mk (Kd.R_at hq_ HO_5.out); have n2_ := Aside0.mk (below_at hq_ HB.out); clear hq_ HO_4 HO_5 HB; have HO_4 := n0_; have HO_5 := n1_; have HB := n2_; clear n0_ n1_ n2_; (try (have n_ := Aside0.mk (Kd.R_mono (ok' := (fun k_ => some k_ ≠ (.slice (some ⟨go22, 0, none⟩) x4_1.length co22 : Value).ownBlock)) HO_5.out (fun k_ hk => hk.2)); clear HO_5; have HO_5 := n_; clear n_)); (try (obtain ⟨hy38_, hz38_⟩ := Kd.R_celln 0 HO_5.out ((ji23) : Int) (of_decide_eq_true (by first | (with_reducible assumption) | assumption)) (of_decide_eq_true (by first | (with_reducible assumption) | assumption)))); (try (have HP38 := Kd.R_putg HO_5.out ((ji23) : Int) ji30)))); refine store_event (t := 3) (p := 64) (v := ?vo_w39) (w1 := (w37.setCell ⟨go29, ((ji23) : Int).toNat, none⟩ (.int .i64 ji30))) ?hg ?ho ?hn ?hr ?_; (case ho => rfl); (case hg => rfl); (case hn => rfl); (case hr => first | (go_simp; done) | (go_simp; rfl)); intro w39 hw; have hg : w37.grownBy w39 (some go29) := (by rw [hw]; exact HP38.2); have hp_ : Kd.R (Kd.int .i64) 3 w39 w.heap.size (fun k_ => some k_ ≠ (.slice (some ⟨go22, 0, none⟩) x4_1.length co22 : Value).ownBlock) (.slice (some ⟨go29, 0, none⟩) x5_1.length co29) y241 := (by rw [hw, Ny241.out]; exact HP38.1); clear HP38; have n0_ := Aside0.mk (Kd.R_after (v := (.slice (some ⟨go29, 0, none⟩) x5_1.length co29)) (v1 := (.slice (some ⟨go29, 0, none⟩) x5_1.length co29)) (ok := (fun _ => True)) (by (with_reducible repeat (first | apply Kd.R_alloc | apply Kd.R_drewN | apply Kd.R_drew)); exact Kd.R_mono HO_4.out (fun _ hk => ⟨trivial, hk⟩)) hg (.inl rfl)); have n1_ := Aside0.mk (hp_); have n2_ := Aside0.mk ((by rw [hw]; exact below_set (HB.out) GB29.out : Below w.heap.size w w39)); clear HO_4; clear HO_5; clear HB; have HO_4 := n0_; have HO_5 := n1_; have HB := n2_; clear n0_ n1_ n2_; clear hg hw hp_; have p33 : 0 ≤ ((ji30) : Int) := of_decide_eq_true (by first | (with_reducible assumption) | assumption); have q33 : ((ji30) : Int) < ((x5_1.length : Int) : Int) := of_decide_eq_true (by first | (with_reducible assumption) | assumption); obtain ⟨hx33_0, hf33_0⟩ := Kd.R_celln 0 HO_5.out ((ji30) : Int) p33 q33; replace p33 := eq_true p33; replace q33 := eq_true q33; obtain ⟨hy40_, hz40_⟩ := Kd.R_celln 0 HO_5.out ((ji30) : Int) (of_decide_eq_true (by first | (with_reducible assumption) | assumption)) (of_decide_eq_true (by first | (with_reducible assumption) | assumption)); have HP40 := Kd.R_putg HO_5.out ((ji30) : Int) ji23) | ((with_reducible refine gate_store (t := 3) (p := 74) rfl ?_); (try (rw [drewN_self w39]; generalize hq_ : World.drewN w39 _ = w39; have n0_ := Aside0.mk (Kd.R_at hq_ HO_4.out); have n1_ := Aside0.mk (Kd.R_at hq_ HO_5.out); have n2_ := Aside0.mk (below_at hq_ HB.out); clear hq_ HO_4 HO_5 HB; have HO_4 := n0_; have HO_5 := n1_; have HB := n2_; clear n0_ n1_ n2_; (try (obtain ⟨hy40_, hz40_⟩ := Kd.R_celln 0 HO_5.out ((ji30) : Int) (of_decide_eq_true (by first | (with_reducible assumption) | assumption)) (of_decide_eq_true (by first | (with_reducible assumption) | assumption)))); (try (have HP40 := Kd.R_putg HO_5.out ((ji30) : Int) ji23)))); refine store_event (t := 3) (p := 74) (v := ?vo_w41) (w1 := (w39.setCell ⟨go29, ((ji30) : Int).toNat, none⟩ (.int .i64 ji23))) ?hg ?ho ?hn ?hr ?_; (case ho => rfl); (case hg => rfl); (case hn => rfl); (case hr => first | (go_simp; done) | (go_simp; rfl)); intro w41 hw; have hg : w39.grownBy w41 (some go29) := (by rw [hw]; exact HP40.2); have hp_ : Kd.R (Kd.int .i64) 3 w41 w.heap.size (fun k_ => some k_ ≠ (.slice (some ⟨go22, 0, none⟩) x4_1.length co22 : Value).ownBlock) (.slice (some ⟨go29, 0, none⟩) x5_1.length co29) y242 := (by rw [hw, Ny242.out]; exact HP40.1); clear HP40; have n0_ := Aside0.mk (Kd.R_after (v := (.slice (some ⟨go29, 0, none⟩) x5_1.length co29)) (v1 := (.slice (some ⟨go29, 0, none⟩) x5_1.length co29)) (ok := (fun _ => True)) (by (with_reducible repeat (first | apply Kd.R_alloc | apply Kd.R_drewN | apply Kd.R_drew)); exact HO_4.out) hg (.inl rfl)); have n1_ := Aside0.mk (hp_); have n2_ := Aside0.mk ((by rw [hw]; exact below_set (HB.out) GB29.out : Below w.heap.size w w41)); clear HO_4; clear HO_5; clear HB; have HO_4 := n0_; have HO_5 := n1_; have HB := n2_; clear n0_ n1_ n2_; clear hg hw hp_)); try go_wp2_with (first | (go_at_call 29; (with_reducible refine (spec_l8Partner.calls k1 a0 x6_1 t236 _ A10.out).mono ?_); rintro e w' ⟨rfl, ⟨nd, rfl⟩⟩; (try first | exact ⟨rfl, _, World.drewN_drewN _ _ _⟩ | exact ⟨rfl, _, Eq.trans (World.drewN_drewN _ _ _) (congrArg (World.drewN _) (Nat.add_assoc _ _ _))⟩); have p12 : 0 ≤ (x6_1 : Int) := of_decide_eq_true (by first | (with_reducible assumption) | assumption); have q12 : x6_1 < (a0.size : Int) := of_decide_eq_true (by first | (with_reducible assumption) | assumption); have hx12 := bt_at a0 x6_1; replace p12 := eq_true p12; replace q12 := eq_true q12) | (go_at_call 45; (with_reducible refine (spec_l8Small.calls (bt a0 x6_1) t237 _ A13.out).mono ?_); rintro e w' ⟨rfl, ⟨nd, rfl⟩⟩; (try first | exact ⟨rfl, _, World.drewN_drewN _ _ _⟩ | exact ⟨rfl, _, Eq.trans (World.drewN_drewN _ _ _) (congrArg (World.drewN _) (Nat.add_assoc _ _ _))⟩); have p16 : 0 ≤ (t236 : Int) := of_decide_eq_true (by first | (with_reducible assumption) | assumption); have q16 : t236 < (a0.size : Int) := of_decide_eq_true (by first | (with_reducible assumption) | assumption); have hx16 := bt_at a0 t236; replace p16 := eq_true p16; replace q16 := eq_true q16) | (go_at_call 45; (with_reducible refine (spec_l8Small.calls (bt a0 t236) t238 _ A17.out).mono ?_); rintro e w' ⟨rfl, ⟨nd, rfl⟩⟩; (try first | exact ⟨rfl, _, World.drewN_drewN _ _ _⟩ | exact ⟨rfl, _, Eq.trans (World.drewN_drewN _ _ _) (congrArg (World.drewN _) (Nat.add_assoc _ _ _))⟩); have p22 : 0 ≤ ((ji19) : Int) := of_decide_eq_true (by first | (with_reducible assumption) | assumption); have q22 : ((ji19) : Int) < ((x4_1.length : Int) : Int) := of_decide_eq_true (by first | (with_reducible assumption) | assumption); obtain ⟨go22, co22, eo22, gb22, gl22, cl22, HG22⟩ := Kd.R_form HO_4.out (by omega); (first | cases eo22 | (injection eo22 with ea_ en_ ec_; (first | subst ea_ | (injection ea_ with ea_; subst ea_)); subst ec_; clear en_)); have GB22 := Aside0.mk gb22; have GG22 := Aside0.mk HG22; clear gb22 gl22 HG22; obtain ⟨hx22_0, hf22_0⟩ := Kd.R_celln 0 HO_4.out ((ji19) : Int) p22 q22; replace p22 := eq_true p22; replace q22 := eq_true q22; obtain ⟨hy34_, hz34_⟩ := Kd.R_celln 0 HO_4.out ((ji19) : Int) (of_decide_eq_true (by first | (with_reducible assumption) | assumption)) (of_decide_eq_true (by first | (with_reducible assumption) | assumption)); have HP34 := Kd.R_putg HO_4.out ((ji19) : Int) (wrap64 ((wrap64 (2 * t236)) + 1))) | ((with_reducible refine gate_store (t := 3) (p := 44) rfl ?_); (try (rw [drewN_self wr]; generalize hq_ : World.drewN wr _ = wr; have n0_ := Aside0.mk (Kd.R_at hq_ HO_4.out); have n1_ := Aside0.mk (Kd.R_at hq_ HO_5.out); have n2_ := Aside0.mk (below_at hq_ HB.out); clear hq_ HO_4 HO_5 HB; have HO_4 := n0_; have HO_5 := n1_; have HB := n2_; clear n0_ n1_ n2_; (try (obtain ⟨hy34_, hz34_⟩ := Kd.R_celln 0 HO_4.out ((ji19) : Int) (of_decide_eq_true (by first | (with_reducible assumption) | assumption)) (of_decide_eq_true (by first | (with_reducible assumption) | assumption)))); (try (have HP34 := Kd.R_putg HO_4.out ((ji19) : Int) (wrap64 ((wrap64 (2 * t236)) + 1)))))); refine store_event (t := 3) (p := 44) (v := ?vo_w35) (w1 := (wr.setCell ⟨go22, ((ji19) : Int).toNat, none⟩ (.int .i64 (wrap64 ((wrap64 (2 * t236)) + 1))))) ?hg ?ho ?hn ?hr ?_; (case ho => rfl); (case hg => rfl); (case hn => rfl); (case hr => first | (go_simp; done) | (go_simp; rfl)); intro w35 hw; have hg : wr.grownBy w35 (some go22) := (by rw [hw]; exact HP34.2); have hp_ : Kd.R (Kd.int .i64) 3 w35 w.heap.size (fun k_ => some k_ ≠ (v234 : Value).ownBlock) (.slice (some ⟨go22, 0, none⟩) x4_1.length co22) y239 := (by rw [hw, Ny239.out]; exact HP34.1); clear HP34; have n0_ := Aside0.mk (hp_); have n1_ := Aside0.mk (Kd.R_after (v := (.slice (some ⟨go22, 0, none⟩) x4_1.length co22)) (v1 := (.slice (some ⟨go22, 0, none⟩) x4_1.length co22)) (ok := (fun _ => True)) (by (with_reducible repeat (first | apply Kd.R_alloc | apply Kd.R_drewN | apply Kd.R_drew)); exact Kd.R_mono HO_5.out (fun _ hk => ⟨trivial, hk⟩)) hg (.inl rfl)); have n2_ := Aside0.mk ((by rw [hw]; exact below_set (HB.out) GB22.out : Below w.heap.size w w35)); clear HO_4; clear HO_5; clear HB; have HO_4 := n0_; have HO_5 := n1_; have HB := n2_; clear n0_ n1_ n2_; clear hg hw hp_; have p26 : 0 ≤ ((ji23) : Int) := of_decide_eq_true (by first | (with_reducible assumption) | assumption); have q26 : ((ji23) : Int) < ((x4_1.length : Int) : Int) := of_decide_eq_true (by first | (with_reducible assumption) | assumption); obtain ⟨hx26_0, hf26_0⟩ := Kd.R_celln 0 HO_4.out ((ji23) : Int) p26 q26; replace p26 := eq_true p26; replace q26 := eq_true q26; obtain ⟨hy36_, hz36_⟩ := Kd.R_celln 0 HO_4.out ((ji23) : Int) (of_decide_eq_true (by first | (with_reducible assumption) | assumption)) (of_decide_eq_true (by first | (with_reducible assumption) | assumption)); have HP36 := Kd.R_putg HO_4.out ((ji23) : Int) (wrap64 ((wrap64 ((wrap64 (2 * t236)) + 1)) - 1))) | ((with_reducible refine gate_store (t := 3) (p := 54) rfl ?_); (try (rw [drewN_self w35]; generalize hq_ : World.drewN w35 _ = w35; have n0_ := Aside0.mk (Kd.R_at hq_ HO_4.out); have n1_ := Aside0.mk (Kd.R_at hq_ HO_5.out); have n2_ := Aside0.mk (below_at hq_ HB.out); clear hq_ HO_4 HO_5 HB; have HO_4 := n0_; have HO_5 := n1_; have HB := n2_; clear n0_ n1_ n2_; (try (obtain ⟨hy36_, hz36_⟩ := Kd.R_celln 0 HO_4.out ((ji23) : Int) (of_decide_eq_true (by first | (with_reducible assumption) | assumption)) (of_decide_eq_true (by first | (with_reducible assumption) | assumption)))); (try (have HP36 := Kd.R_putg HO_4.out ((ji23) : Int) (wrap64 ((wrap64 ((wrap64 (2 * t236)) + 1)) - 1)))))); refine store_event (t := 3) (p := 54) (v := ?vo_w37) (w1 := (w35.setCell ⟨go22, ((ji23) : Int).toNat, none⟩ (.int .i64 (wrap64 ((wrap64 ((wrap64 (2 * t236)) + 1)) - 1))))) ?hg ?ho ?hn ?hr ?_; (case ho => rfl); (case hg => rfl); (case hn => rfl); (case hr => first | (go_simp; done) | (go_simp; rfl)); intro w37 hw; have hg : w35.grownBy w37 (some go22) := (by rw [hw]; exact HP36.2); have hp_ : Kd.R (Kd.int .i64) 3 w37 w.heap.size (fun k_ => some k_ ≠ (v234 : Value).ownBlock) (.slice (some ⟨go22, 0, none⟩) x4_1.length co22) y240 := (by rw [hw, Ny240.out]; exact HP36.1); clear HP36; have n0_ := Aside0.mk (hp_); have n1_ := Aside0.mk (Kd.R_after (v := (.slice (some ⟨go22, 0, none⟩) x4_1.length co22)) (v1 := (.slice (some ⟨go22, 0, none⟩) x4_1.length co22)) (ok := (fun _ => True)) (by (with_reducible repeat (first | apply Kd.R_alloc | apply Kd.R_drewN | apply Kd.R_drew)); exact HO_5.out) hg (.inl rfl)); have n2_ := Aside0.mk ((by rw [hw]; exact below_set (HB.out) GB22.out : Below w.heap.size w w37)); clear HO_4; clear HO_5; clear HB; have HO_4 := n0_; have HO_5 := n1_; have HB := n2_; clear n0_ n1_ n2_; clear hg hw hp_; have p29 : 0 ≤ ((ji23) : Int) := of_decide_eq_true (by first | (with_reducible assumption) | assumption); have q29 : ((ji23) : Int) < ((x5_1.length : Int) : Int) := of_decide_eq_true (by first | (with_reducible assumption) | assumption); obtain ⟨go29, co29, eo29, gb29, gl29, cl29, HG29⟩ := Kd.R_form HO_5.out (by omega); (first | cases eo29 | (injection eo29 with ea_ en_ ec_; (first | subst ea_ | (injection ea_ with ea_; subst ea_)); subst ec_; clear en_)); have GB29 := Aside0.mk gb29; have GG29 := Aside0.mk HG29; clear gb29 gl29 HG29; obtain ⟨hx29_0, hf29_0⟩ := Kd.R_celln 0 HO_5.out ((ji23) : Int) p29 q29; replace p29 := eq_true p29; replace q29 := eq_true q29; have n_ := Aside0.mk (Kd.R_mono (ok' := (fun k_ => some k_ ≠ (.slice (some ⟨go22, 0, none⟩) x4_1.length co22 : Value).ownBlock)) HO_5.out (fun k_ hk => hk.2)); clear HO_5; have HO_5 := n_; clear n_; obtain ⟨hy38_, hz38_⟩ := Kd.R_celln 0 HO_5.out ((ji23) : Int) (of_decide_eq_true (by first | (with_reducible assumption) | assumption)) (of_decide_eq_true (by first | (with_reducible assumption) | assumption)); have HP38 := Kd.R_putg HO_5.out ((ji23) : Int) ji30) | ((with_reducible refine gate_store (t := 3) (p := 64) rfl ?_); (try (rw [drewN_self w37]; generalize hq_ : World.drewN w37 _ = w37; have n0_ := Aside0.mk (Kd.R_at hq_ HO_4.out); have n1_ := Aside0.mk (Kd.R_at hq_ HO_5.out); have n2_ := Aside0.mk (below_at hq_ HB.out); clear hq_ HO_4 HO_5 HB; have HO_4 := n0_; have HO_5 := n1_; have HB := n2_; clear n0_ n1_ n2_; (try (have n_ := Aside0.mk (Kd.R_mono (ok' := (fun k_ => some k_ ≠ (.slice (some ⟨go22, 0, none⟩) x4_1.length co22 : Value).ownBlock)) HO_5.out (fun k_ hk => hk.2)); clear HO_5; have HO_5 := n_; clear n_)); (try (obtain ⟨hy38_, hz38_⟩ := Kd.R_celln 0 HO_5.out ((ji23) : Int) (of_decide_eq_true (by first | (with_reducible assumption) | assumption)) (of_decide_eq_true (by first | (with_reducible assumption) | assumption)))); (try (have HP38 := Kd.R_putg HO_5.out ((ji23) : Int) ji30)))); refine store_event (t := 3) (p := 64) (v := ?vo_w39) (w1 := (w37.setCell ⟨go29, ((ji23) : Int).toNat, none⟩ (.int .i64 ji30))) ?hg ?ho ?hn ?hr ?_; (case ho => rfl); (case hg => rfl); (case hn => rfl); (case hr => first | (go_simp; done) | (go_simp; rfl)); intro w39 hw; have hg : w37.grownBy w39 (some go29) := (by rw [hw]; exact HP38.2); have hp_ : Kd.R (Kd.int .i64) 3 w39 w.heap.size (fun k_ => some k_ ≠ (.slice (some ⟨go22, 0, none⟩) x4_1.length co22 : Value).ownBlock) (.slice (some ⟨go29, 0, none⟩) x5_1.length co29) y241 := (by rw [hw, Ny241.out]; exact HP38.1); clear HP38; have n0_ := Aside0.mk (Kd.R_after (v := (.slice (some ⟨go29, 0, none⟩) x5_1.length co29)) (v1 := (.slice (some ⟨go29, 0, none⟩) x5_1.length co29)) (ok := (fun _ => True)) (by (with_reducible repeat (first | apply Kd.R_alloc | apply Kd.R_drewN | apply Kd.R_drew)); exact Kd.R_mono HO_4.out (fun _ hk => ⟨trivial, hk⟩)) hg (.inl rfl)); have n1_ := Aside0.mk (hp_); have n2_ := Aside0.mk ((by rw [hw]; exact below_set (HB.out) GB29.out : Below w.heap.size w w39)); clear HO_4; clear HO_5; clear HB; have HO_4 := n0_; have HO_5 := n1_; have HB := n2_; clear n0_ n1_ n2_; clear hg hw hp_; have p33 : 0 ≤ ((ji30) : Int) := of_decide_eq_true (by first | (with_reducible assumption) | assumption); have q33 : ((ji30) : Int) < ((x5_1.length : Int) : Int) := of_decide_eq_true (by first | (with_reducible assumption) | assumption); obtain ⟨hx33_0, hf33_0⟩ := Kd.R_celln 0 HO_5.out ((ji30) : Int) p33 q33; replace p33 := eq_true p33; replace q33 := eq_true q33; obtain ⟨hy40_, hz40_⟩ := Kd.R_celln 0 HO_5.out ((ji30) : Int) (of_decide_eq_true (by first | (with_reducible assumption) | assumption)) (of_decide_eq_true (by first | (with_reducible assumption) | assumption)); have HP40 := Kd.R_putg HO_5.out ((ji30) : Int) ji23) | ((with_reducible refine gate_store (t := 3) (p := 74) rfl ?_); (try (rw [drewN_self w39]; generalize hq_ : World.drewN w39 _ = w39; have n0_ := Aside0.mk (Kd.R_at hq_ HO_4.out); have n1_ := Aside0.mk (Kd.R_at hq_ HO_5.out); have n2_ := Aside0.mk (below_at hq_ HB.out); clear hq_ HO_4 HO_5 HB; have HO_4 := n0_; have HO_5 := n1_; have HB := n2_; clear n0_ n1_ n2_; (try (obtain ⟨hy40_, hz40_⟩ := Kd.R_celln 0 HO_5.out ((ji30) : Int) (of_decide_eq_true (by first | (with_reducible assumption) | assumption)) (of_decide_eq_true (by first | (with_reducible assumption) | assumption)))); (try (have HP40 := Kd.R_putg HO_5.out ((ji30) : Int) ji23)))); refine store_event (t := 3) (p := 74) (v := ?vo_w41) (w1 := (w39.setCell ⟨go29, ((ji30) : Int).toNat, none⟩ (.int .i64 ji23))) ?hg ?ho ?hn ?hr ?_; (case ho => rfl); (case hg => rfl); (case hn => rfl); (case hr => first | (go_simp; done) | (go_simp; rfl)); intro w41 hw; have hg : w39.grownBy w41 (some go29) := (by rw [hw]; exact HP40.2); have hp_ : Kd.R (Kd.int .i64) 3 w41 w.heap.size (fun k_ => some k_ ≠ (.slice (some ⟨go22, 0, none⟩) x4_1.length co22 : Value).ownBlock) (.slice (some ⟨go29, 0, none⟩) x5_1.length co29) y242 := (by rw [hw, Ny242.out]; exact HP40.1); clear HP40; have n0_ := Aside0.mk (Kd.R_after (v := (.slice (some ⟨go29, 0, none⟩) x5_1.length co29)) (v1 := (.slice (some ⟨go29, 0, none⟩) x5_1.length co29)) (ok := (fun _ => True)) (by (with_reducible repeat (first | apply Kd.R_alloc | apply Kd.R_drewN | apply Kd.R_drew)); exact HO_4.out) hg (.inl rfl)); have n1_ := Aside0.mk (hp_); have n2_ := Aside0.mk ((by rw [hw]; exact below_set (HB.out) GB29.out : Below w.heap.size w w41)); clear HO_4; clear HO_5; clear HB; have HO_4 := n0_; have HO_5 := n1_; have HB := n2_; clear n0_ n1_ n2_; clear hg hw hp_)))
                  go_roundg k1
                  case measure => have := HK1.out; omega
                  case rel => exact ⟨(y240), (y242), (wrap64 (x6_1 + 1)), (by first | rfl | (simp; done) | (simp [*]; done)), H', ⟨by have := HK1.out; omega⟩, ⟨by (with_reducible repeat (first | apply Kd.R_alloc | apply Kd.R_drewN | apply Kd.R_drew)); exact Kd.R_mono HO_4.out (fun _ hk => hk.2)⟩, ⟨by (with_reducible repeat (first | apply Kd.R_alloc | apply Kd.R_drewN | apply Kd.R_drew)); exact HO_5.out⟩, ⟨by repeat (first | (with_reducible first | exact HB.out | apply below_alloc | apply pw_below_drewN | apply below_drew1) | exact HB.out)⟩⟩
                 ·rw [if_neg c32] at H
                  exact absurd H (by simp)
                ·rw [if_neg c31] at H
                 exact absurd H (by simp)
               ·rw [if_neg c28] at H
                exact absurd H (by simp)
             ·rw [if_neg c25] at H
              exact absurd H (by simp)
            ·rw [if_neg c24] at H
             exact absurd H (by simp)
           ·rw [if_neg c21] at H
            exact absurd H (by simp)
          ·rw [if_neg c20] at H
           exact absurd H (by simp)
         ·rw [if_neg c18] at H
          have c18b0 : (t237 != t238) = false := by simpa using c18
          (try (have c18b1 : decide (t237 = t238) = true := by simpa using c18))
          (try (have c18b2 : (t237 == t238) = true := by simpa using c18))
          clear c18
          obtain ⟨ji42, hji42⟩ : ∃ j_ : Int, (wrap64 (2 * x6_1)) = j_ := ⟨_, rfl⟩
          replace H : (if 0 ≤ (ji42) then (if (ji42) < (x4_1.length : Int) then (if 0 ≤ (wrap64 ((ji42) + 1)) then (if (wrap64 ((ji42) + 1)) < (x4_1.length : Int) then (if ji2 = 0 then (none) else (if (wrap64 ((ji42) + 1)) < (x5_1.length : Int) then (if 0 ≤ (Int.tmod (wrap64 ((ji42) + 2)) ji2) then (if (Int.tmod (wrap64 ((ji42) + 2)) ji2) < (x5_1.length : Int) then (spec_l8Corners.l0 k1 a0 ji2 ((x4_1.set ((ji42) : Int).toNat (wrap64 ((wrap64 (2 * t236)) + 0))).set ((wrap64 ((ji42) + 1)) : Int).toNat (wrap64 ((wrap64 ((wrap64 (2 * t236)) + 1)) - 0))) ((x5_1.set ((wrap64 ((ji42) + 1)) : Int).toNat (Int.tmod (wrap64 ((ji42) + 2)) ji2)).set ((Int.tmod (wrap64 ((ji42) + 2)) ji2) : Int).toNat (wrap64 ((ji42) + 1))) (wrap64 (x6_1 + 1))) else (none)) else (none)) else (none))) else (none)) else (none)) else (none)) else (none)) = some r := by first | (rw [hji42] at H; exact H) | (simp only [hji42] at H ⊢; exact H)
          (try rw [hji42] at A10)
          (try rw [hji42] at A13)
          (try rw [hji42] at A17)
          have hji42w : (IntKind.i64.wrap (2 * x6_1)) = ji42 := (i64_w _).trans hji42
          by_cases c43 : 0 ≤ (ji42)
          ·rw [if_pos c43] at H
           have c43b0 : decide (0 ≤ (ji42)) = true := decide_eq_true c43
           clear c43
           by_cases c44 : (ji42) < (x4_1.length : Int)
           ·rw [if_pos c44] at H
            have c44b0 : decide ((ji42) < (x4_1.length : Int)) = true := decide_eq_true c44
            clear c44
            obtain ⟨y243, hy243⟩ : ∃ y_ : List Int, y_ = (x4_1.set ((ji42) : Int).toNat (wrap64 ((wrap64 (2 * t236)) + 0))) := ⟨_, rfl⟩
            replace H : (if 0 ≤ (wrap64 ((ji42) + 1)) then (if (wrap64 ((ji42) + 1)) < (x4_1.length : Int) then (if ji2 = 0 then (none) else (if (wrap64 ((ji42) + 1)) < (x5_1.length : Int) then (if 0 ≤ (Int.tmod (wrap64 ((ji42) + 2)) ji2) then (if (Int.tmod (wrap64 ((ji42) + 2)) ji2) < (x5_1.length : Int) then (spec_l8Corners.l0 k1 a0 ji2 (y243.set ((wrap64 ((ji42) + 1)) : Int).toNat (wrap64 ((wrap64 ((wrap64 (2 * t236)) + 1)) - 0))) ((x5_1.set ((wrap64 ((ji42) + 1)) : Int).toNat (Int.tmod (wrap64 ((ji42) + 2)) ji2)).set ((Int.tmod (wrap64 ((ji42) + 2)) ji2) : Int).toNat (wrap64 ((ji42) + 1))) (wrap64 (x6_1 + 1))) else (none)) else (none)) else (none))) else (none)) else (none)) = some r := by first | (rw [hy243]; with_reducible exact H) | (have H2_ := (Option.bind_some _ _).symm.trans H; rw [hy243]; with_reducible exact H2_) | (have H2_ := (Option.bind_some _ _).symm.trans H; with_reducible exact H2_) | with_reducible exact H | (rw [hy243]; exact H) | exact H
            have Ny243 := Aside0.mk hy243
            clear hy243
            obtain ⟨ji46, hji46⟩ : ∃ j_ : Int, (wrap64 ((ji42) + 1)) = j_ := ⟨_, rfl⟩
            replace H : (if 0 ≤ (ji46) then (if (ji46) < (x4_1.length : Int) then (if ji2 = 0 then (none) else (if (ji46) < (x5_1.length : Int) then (if 0 ≤ (Int.tmod (wrap64 ((ji42) + 2)) ji2) then (if (Int.tmod (wrap64 ((ji42) + 2)) ji2) < (x5_1.length : Int) then (spec_l8Corners.l0 k1 a0 ji2 (y243.set ((ji46) : Int).toNat (wrap64 ((wrap64 ((wrap64 (2 * t236)) + 1)) - 0))) ((x5_1.set ((ji46) : Int).toNat (Int.tmod (wrap64 ((ji42) + 2)) ji2)).set ((Int.tmod (wrap64 ((ji42) + 2)) ji2) : Int).toNat (ji46)) (wrap64 (x6_1 + 1))) else (none)) else (none)) else (none))) else (none)) else (none)) = some r := by first | (rw [hji46] at H; exact H) | (simp only [hji46] at H ⊢; exact H)
            (try rw [hji46] at A10)
            (try rw [hji46] at A13)
            (try rw [hji46] at A17)
            have hji46w : (IntKind.i64.wrap ((ji42) + 1)) = ji46 := (i64_w _).trans hji46
            by_cases c47 : 0 ≤ (ji46)
            ·rw [if_pos c47] at H
             have c47b0 : decide (0 ≤ (ji46)) = true := decide_eq_true c47
             clear c47
             by_cases c48 : (ji46) < (x4_1.length : Int)
             ·rw [if_pos c48] at H
              have c48b0 : decide ((ji46) < (x4_1.length : Int)) = true := decide_eq_true c48
              clear c48
              obtain ⟨y244, hy244⟩ : ∃ y_ : List Int, y_ = (y243.set ((ji46) : Int).toNat (wrap64 ((wrap64 ((wrap64 (2 * t236)) + 1)) - 0))) := ⟨_, rfl⟩
              replace H : (if ji2 = 0 then (none) else (if (ji46) < (x5_1.length : Int) then (if 0 ≤ (Int.tmod (wrap64 ((ji42) + 2)) ji2) then (if (Int.tmod (wrap64 ((ji42) + 2)) ji2) < (x5_1.length : Int) then (spec_l8Corners.l0 k1 a0 ji2 y244 ((x5_1.set ((ji46) : Int).toNat (Int.tmod (wrap64 ((ji42) + 2)) ji2)).set ((Int.tmod (wrap64 ((ji42) + 2)) ji2) : Int).toNat (ji46)) (wrap64 (x6_1 + 1))) else (none)) else (none)) else (none))) = some r := by first | (rw [hy244]; with_reducible exact H) | (have H2_ := (Option.bind_some _ _).symm.trans H; rw [hy244]; with_reducible exact H2_) | (have H2_ := (Option.bind_some _ _).symm.trans H; with_reducible exact H2_) | with_reducible exact H | (rw [hy244]; exact H) | exact H
              have Ny244 := Aside0.mk hy244
              clear hy244
              by_cases c50 : ji2 = 0
              ·rw [if_pos c50] at H
               exact absurd H (by simp)
              ·rw [if_neg c50] at H
               have c50b0 : (ji2 == 0) = false := beq_eq_false_iff_ne.mpr c50
               have c50b1 : (ji2 != 0) = true := bne_iff_ne.mpr c50
               by_cases c51 : (ji46) < (x5_1.length : Int)
               ·rw [if_pos c51] at H
                have c51b0 : decide ((ji46) < (x5_1.length : Int)) = true := decide_eq_true c51
                clear c51
                obtain ⟨y245, hy245⟩ : ∃ y_ : List Int, y_ = (x5_1.set ((ji46) : Int).toNat (Int.tmod (wrap64 ((ji42) + 2)) ji2)) := ⟨_, rfl⟩
                replace H : (if 0 ≤ (Int.tmod (wrap64 ((ji42) + 2)) ji2) then (if (Int.tmod (wrap64 ((ji42) + 2)) ji2) < (x5_1.length : Int) then (spec_l8Corners.l0 k1 a0 ji2 y244 (y245.set ((Int.tmod (wrap64 ((ji42) + 2)) ji2) : Int).toNat (ji46)) (wrap64 (x6_1 + 1))) else (none)) else (none)) = some r := by first | (rw [hy245]; with_reducible exact H) | (have H2_ := (Option.bind_some _ _).symm.trans H; rw [hy245]; with_reducible exact H2_) | (have H2_ := (Option.bind_some _ _).symm.trans H; with_reducible exact H2_) | with_reducible exact H | (rw [hy245]; exact H) | exact H
                have Ny245 := Aside0.mk hy245
                clear hy245
                obtain ⟨ji53, hji53⟩ : ∃ j_ : Int, (Int.tmod (wrap64 ((ji42) + 2)) ji2) = j_ := ⟨_, rfl⟩
                replace H : (if 0 ≤ (ji53) then (if (ji53) < (x5_1.length : Int) then (spec_l8Corners.l0 k1 a0 ji2 y244 (y245.set ((ji53) : Int).toNat (ji46)) (wrap64 (x6_1 + 1))) else (none)) else (none)) = some r := by first | (rw [hji53] at H; exact H) | (simp only [hji53] at H ⊢; exact H)
                (try rw [hji53] at A10)
                (try rw [hji53] at A13)
                (try rw [hji53] at A17)
                (try rw [hji53] at Ny245)
                by_cases c54 : 0 ≤ (ji53)
                ·rw [if_pos c54] at H
                 have c54b0 : decide (0 ≤ (ji53)) = true := decide_eq_true c54
                 clear c54
                 by_cases c55 : (ji53) < (x5_1.length : Int)
                 ·rw [if_pos c55] at H
                  have c55b0 : decide ((ji53) < (x5_1.length : Int)) = true := decide_eq_true c55
                  clear c55
                  obtain ⟨y246, hy246⟩ : ∃ y_ : List Int, y_ = (y245.set ((ji53) : Int).toNat (ji46)) := ⟨_, rfl⟩
                  replace H : (spec_l8Corners.l0 k1 a0 ji2 y244 y246 (wrap64 (x6_1 + 1))) = some r := by first | (rw [hy246]; with_reducible exact H) | (have H2_ := (Option.bind_some _ _).symm.trans H; rw [hy246]; with_reducible exact H2_) | (have H2_ := (Option.bind_some _ _).symm.trans H; with_reducible exact H2_) | with_reducible exact H | (rw [hy246]; exact H) | exact H
                  have Ny246 := Aside0.mk hy246
                  clear hy246
                  have H' := Aside0.mk H
                  clear H
                  go_wp2_with (first | (go_at_call 29; (with_reducible refine (spec_l8Partner.calls k1 a0 x6_1 t236 _ A10.out).mono ?_); rintro e w' ⟨rfl, ⟨nd, rfl⟩⟩; (try first | exact ⟨rfl, _, World.drewN_drewN _ _ _⟩ | exact ⟨rfl, _, Eq.trans (World.drewN_drewN _ _ _) (congrArg (World.drewN _) (Nat.add_assoc _ _ _))⟩); have p12 : 0 ≤ (x6_1 : Int) := of_decide_eq_true (by first | (with_reducible assumption) | assumption); have q12 : x6_1 < (a0.size : Int) := of_decide_eq_true (by first | (with_reducible assumption) | assumption); have hx12 := bt_at a0 x6_1; replace p12 := eq_true p12; replace q12 := eq_true q12) | (go_at_call 45; (with_reducible refine (spec_l8Small.calls (bt a0 x6_1) t237 _ A13.out).mono ?_); rintro e w' ⟨rfl, ⟨nd, rfl⟩⟩; (try first | exact ⟨rfl, _, World.drewN_drewN _ _ _⟩ | exact ⟨rfl, _, Eq.trans (World.drewN_drewN _ _ _) (congrArg (World.drewN _) (Nat.add_assoc _ _ _))⟩); have p16 : 0 ≤ (t236 : Int) := of_decide_eq_true (by first | (with_reducible assumption) | assumption); have q16 : t236 < (a0.size : Int) := of_decide_eq_true (by first | (with_reducible assumption) | assumption); have hx16 := bt_at a0 t236; replace p16 := eq_true p16; replace q16 := eq_true q16) | (go_at_call 45; (with_reducible refine (spec_l8Small.calls (bt a0 t236) t238 _ A17.out).mono ?_); rintro e w' ⟨rfl, ⟨nd, rfl⟩⟩; (try first | exact ⟨rfl, _, World.drewN_drewN _ _ _⟩ | exact ⟨rfl, _, Eq.trans (World.drewN_drewN _ _ _) (congrArg (World.drewN _) (Nat.add_assoc _ _ _))⟩); have p45 : 0 ≤ ((ji42) : Int) := of_decide_eq_true (by first | (with_reducible assumption) | assumption); have q45 : ((ji42) : Int) < ((x4_1.length : Int) : Int) := of_decide_eq_true (by first | (with_reducible assumption) | assumption); obtain ⟨go45, co45, eo45, gb45, gl45, cl45, HG45⟩ := Kd.R_form HO_4.out (by omega); (first | cases eo45 | (injection eo45 with ea_ en_ ec_; (first | subst ea_ | (injection ea_ with ea_; subst ea_)); subst ec_; clear en_)); have GB45 := Aside0.mk gb45; have GG45 := Aside0.mk HG45; clear gb45 gl45 HG45; obtain ⟨hx45_0, hf45_0⟩ := Kd.R_celln 0 HO_4.out ((ji42) : Int) p45 q45; replace p45 := eq_true p45; replace q45 := eq_true q45; obtain ⟨hy57_, hz57_⟩ := Kd.R_celln 0 HO_4.out ((ji42) : Int) (of_decide_eq_true (by first | (with_reducible assumption) | assumption)) (of_decide_eq_true (by first | (with_reducible assumption) | assumption)); have HP57 := Kd.R_putg HO_4.out ((ji42) : Int) (wrap64 ((wrap64 (2 * t236)) + 0))) | ((with_reducible refine gate_store (t := 3) (p := 44) rfl ?_); (try (rw [drewN_self wr]; generalize hq_ : World.drewN wr _ = wr; have n0_ := Aside0.mk (Kd.R_at hq_ HO_4.out); have n1_ := Aside0.mk (Kd.R_at hq_ HO_5.out); have n2_ := Aside0.mk (below_at hq_ HB.out); clear hq_ HO_4 HO_5 HB; have HO_4 := n0_; have HO_5 := n1_; have HB := n2_; clear n0_ n1_ n2_; (try (obtain ⟨hy57_, hz57_⟩ := Kd.R_celln 0 HO_4.out ((ji42) : Int) (of_decide_eq_true (by first | (with_reducible assumption) | assumption)) (of_decide_eq_true (by first | (with_reducible assumption) | assumption)))); (try (have HP57 := Kd.R_putg HO_4.out ((ji42) : Int) (wrap64 ((wrap64 (2 * t236)) + 0)))))); refine store_event (t := 3) (p := 44) (v := ?vo_w58) (w1 := (wr.setCell ⟨go45, ((ji42) : Int).toNat, none⟩ (.int .i64 (wrap64 ((wrap64 (2 * t236)) + 0))))) ?hg ?ho ?hn ?hr ?_; (case ho => rfl); (case hg => rfl); (case hn => rfl); (case hr => first | (go_simp; done) | (go_simp; rfl)); intro w58 hw; have hg : wr.grownBy w58 (some go45) := (by rw [hw]; exact HP57.2); have hp_ : Kd.R (Kd.int .i64) 3 w58 w.heap.size (fun k_ => some k_ ≠ (v234 : Value).ownBlock) (.slice (some ⟨go45, 0, none⟩) x4_1.length co45) y243 := (by rw [hw, Ny243.out]; exact HP57.1); clear HP57; have n0_ := Aside0.mk (hp_); have n1_ := Aside0.mk (Kd.R_after (v := (.slice (some ⟨go45, 0, none⟩) x4_1.length co45)) (v1 := (.slice (some ⟨go45, 0, none⟩) x4_1.length co45)) (ok := (fun _ => True)) (by (with_reducible repeat (first | apply Kd.R_alloc | apply Kd.R_drewN | apply Kd.R_drew)); exact Kd.R_mono HO_5.out (fun _ hk => ⟨trivial, hk⟩)) hg (.inl rfl)); have n2_ := Aside0.mk ((by rw [hw]; exact below_set (HB.out) GB45.out : Below w.heap.size w w58)); clear HO_4; clear HO_5; clear HB; have HO_4 := n0_; have HO_5 := n1_; have HB := n2_; clear n0_ n1_ n2_; clear hg hw hp_; have p49 : 0 ≤ ((ji46) : Int) := of_decide_eq_true (by first | (with_reducible assumption) | assumption); have q49 : ((ji46) : Int) < ((x4_1.length : Int) : Int) := of_decide_eq_true (by first | (with_reducible assumption) | assumption); obtain ⟨hx49_0, hf49_0⟩ := Kd.R_celln 0 HO_4.out ((ji46) : Int) p49 q49; replace p49 := eq_true p49; replace q49 := eq_true q49; obtain ⟨hy59_, hz59_⟩ := Kd.R_celln 0 HO_4.out ((ji46) : Int) (of_decide_eq_true (by first | (with_reducible assumption) | assumption)) (of_decide_eq_true (by first | (with_reducible assumption) | assumption)); have HP59 := Kd.R_putg HO_4.out ((ji46) : Int) (wrap64 ((wrap64 ((wrap64 (2 * t236)) + 1)) - 0))) | ((with_reducible refine gate_store (t := 3) (p := 54) rfl ?_); (try (rw [drewN_self w58]; generalize hq_ : World.drewN w58 _ = w58; have n0_ := Aside0.mk (Kd.R_at hq_ HO_4.out); have n1_ := Aside0.mk (Kd.R_at hq_ HO_5.out); have n2_ := Aside0.mk (below_at hq_ HB.out); clear hq_ HO_4 HO_5 HB; have HO_4 := n0_; have HO_5 := n1_; have HB := n2_; clear n0_ n1_ n2_; (try (obtain ⟨hy59_, hz59_⟩ := Kd.R_celln 0 HO_4.out ((ji46) : Int) (of_decide_eq_true (by first | (with_reducible assumption) | assumption)) (of_decide_eq_true (by first | (with_reducible assumption) | assumption)))); (try (have HP59 := Kd.R_putg HO_4.out ((ji46) : Int) (wrap64 ((wrap64 ((wrap64 (2 * t236)) + 1)) - 0)))))); refine store_event (t := 3) (p := 54) (v := ?vo_w60) (w1 := (w58.setCell ⟨go45, ((ji46) : Int).toNat, none⟩ (.int .i64 (wrap64 ((wrap64 ((wrap64 (2 * t236)) + 1)) - 0))))) ?hg ?ho ?hn ?hr ?_; (case ho => rfl); (case hg => rfl); (case hn => rfl); (case hr => first | (go_simp; done) | (go_simp; rfl)); intro w60 hw; have hg : w58.grownBy w60 (some go45) := (by rw [hw]; exact HP59.2); have hp_ : Kd.R (Kd.int .i64) 3 w60 w.heap.size (fun k_ => some k_ ≠ (v234 : Value).ownBlock) (.slice (some ⟨go45, 0, none⟩) x4_1.length co45) y244 := (by rw [hw, Ny244.out]; exact HP59.1); clear HP59; have n0_ := Aside0.mk (hp_); have n1_ := Aside0.mk (Kd.R_after (v := (.slice (some ⟨go45, 0, none⟩) x4_1.length co45)) (v1 := (.slice (some ⟨go45, 0, none⟩) x4_1.length co45)) (ok := (fun _ => True)) (by (with_reducible repeat (first | apply Kd.R_alloc | apply Kd.R_drewN | apply Kd.R_drew)); exact HO_5.out) hg (.inl rfl)); have n2_ := Aside0.mk ((by rw [hw]; exact below_set (HB.out) GB45.out : Below w.heap.size w w60)); clear HO_4; clear HO_5; clear HB; have HO_4 := n0_; have HO_5 := n1_; have HB := n2_; clear n0_ n1_ n2_; clear hg hw hp_; have p52 : 0 ≤ ((ji46) : Int) := of_decide_eq_true (by first | (with_reducible assumption) | assumption); have q52 : ((ji46) : Int) < ((x5_1.length : Int) : Int) := of_decide_eq_true (by first | (with_reducible assumption) | assumption); obtain ⟨go52, co52, eo52, gb52, gl52, cl52, HG52⟩ := Kd.R_form HO_5.out (by omega); (first | cases eo52 | (injection eo52 with ea_ en_ ec_; (first | subst ea_ | (injection ea_ with ea_; subst ea_)); subst ec_; clear en_)); have GB52 := Aside0.mk gb52; have GG52 := Aside0.mk HG52; clear gb52 gl52 HG52; obtain ⟨hx52_0, hf52_0⟩ := Kd.R_celln 0 HO_5.out ((ji46) : Int) p52 q52; replace p52 := eq_true p52; replace q52 := eq_true q52; have n_ := Aside0.mk (Kd.R_mono (ok' := (fun k_ => some k_ ≠ (.slice (some ⟨go45, 0, none⟩) x4_1.length co45 : Value).ownBlock)) HO_5.out (fun k_ hk => hk.2)); clear HO_5; have HO_5 := n_; clear n_; obtain ⟨hy61_, hz61_⟩ := Kd.R_celln 0 HO_5.out ((ji46) : Int) (of_decide_eq_true (by first | (with_reducible assumption) | assumption)) (of_decide_eq_true (by first | (with_reducible assumption) | assumption)); have HP61 := Kd.R_putg HO_5.out ((ji46) : Int) ji53) | ((with_reducible refine gate_store (t := 3) (p := 64) rfl ?_); (try (rw [drewN_self w60]; generalize hq_ : World.drewN w60 _ = w60; have n0_ := Aside0.mk (Kd.R_at hq_ HO_4.out); have n1_ := Aside0.mk (Kd.R_at hq_ HO_5.out); have n2_ := Aside0.mk (below_at hq_ HB.out); clear hq_ HO_4 HO_5 HB; have HO_4 := n0_; have HO_5 := n1_; have HB := n2_; clear n0_ n1_ n2_; (try (have n_ := Aside0.mk (Kd.R_mono (ok' := (fun k_ => some k_ ≠ (.slice (some ⟨go45, 0, none⟩) x4_1.length co45 : Value).ownBlock)) HO_5.out (fun k_ hk => hk.2)); clear HO_5; have HO_5 := n_; clear n_)); (try (obtain ⟨hy61_, hz61_⟩ := Kd.R_celln 0 HO_5.out ((ji46) : Int) (of_decide_eq_true (by first | (with_reducible assumption) | assumption)) (of_decide_eq_true (by first | (with_reducible assumption) | assumption)))); (try (have HP61 := Kd.R_putg HO_5.out ((ji46) : Int) ji53)))); refine store_event (t := 3) (p := 64) (v := ?vo_w62) (w1 := (w60.setCell ⟨go52, ((ji46) : Int).toNat, none⟩ (.int .i64 ji53))) ?hg ?ho ?hn ?hr ?_; (case ho => rfl); (case hg => rfl); (case hn => rfl); (case hr => first | (go_simp; done) | (go_simp; rfl)); intro w62 hw; have hg : w60.grownBy w62 (some go52) := (by rw [hw]; exact HP61.2); have hp_ : Kd.R (Kd.int .i64) 3 w62 w.heap.size (fun k_ => some k_ ≠ (.slice (some ⟨go45, 0, none⟩) x4_1.length co45 : Value).ownBlock) (.slice (some ⟨go52, 0, none⟩) x5_1.length co52) y245 := (by rw [hw, Ny245.out]; exact HP61.1); clear HP61; have n0_ := Aside0.mk (Kd.R_after (v := (.slice (some ⟨go52, 0, none⟩) x5_1.length co52)) (v1 := (.slice (some ⟨go52, 0, none⟩) x5_1.length co52)) (ok := (fun _ => True)) (by (with_reducible repeat (first | apply Kd.R_alloc | apply Kd.R_drewN | apply Kd.R_drew)); exact Kd.R_mono HO_4.out (fun _ hk => ⟨trivial, hk⟩)) hg (.inl rfl)); have n1_ := Aside0.mk (hp_); have n2_ := Aside0.mk ((by rw [hw]; exact below_set (HB.out) GB52.out : Below w.heap.size w w62)); clear HO_4; clear HO_5; clear HB; have HO_4 := n0_; have HO_5 := n1_; have HB := n2_; clear n0_ n1_ n2_; clear hg hw hp_; have p56 : 0 ≤ ((ji53) : Int) := of_decide_eq_true (by first | (with_reducible assumption) | assumption); have q56 : ((ji53) : Int) < ((x5_1.length : Int) : Int) := of_decide_eq_true (by first | (with_reducible assumption) | assumption); obtain ⟨hx56_0, hf56_0⟩ := Kd.R_celln 0 HO_5.out ((ji53) : Int) p56 q56; replace p56 := eq_true p56; replace q56 := eq_true q56; obtain ⟨hy63_, hz63_⟩ := Kd.R_celln 0 HO_5.out ((ji53) : Int) (of_decide_eq_true (by first | (with_reducible assumption) | assumption)) (of_decide_eq_true (by first | (with_reducible assumption) | assumption)); have HP63 := Kd.R_putg HO_5.out ((ji53) : Int) ji46) | ((with_reducible refine gate_store (t := 3) (p := 74) rfl ?_); (try (rw [drewN_self w62]; generalize hq_ : World.drewN w62 _ = w62; have n0_ := Aside0.mk (Kd.R_at hq_ HO_4.out); have n1_ := Aside0.mk (Kd.R_at hq_ HO_5.out); have n2_ := Aside0.mk (below_at hq_ HB.out); clear hq_ HO_4 HO_5 HB; have HO_4 := n0_; have HO_5 := n1_; have HB := n2_; clear n0_ n1_ n2_; (try (obtain ⟨hy63_, hz63_⟩ := Kd.R_celln 0 HO_5.out ((ji53) : Int) (of_decide_eq_true (by first | (with_reducible assumption) | assumption)) (of_decide_eq_true (by first | (with_reducible assumption) | assumption)))); (try (have HP63 := Kd.R_putg HO_5.out ((ji53) : Int) ji46)))); refine store_event (t := 3) (p := 74) (v := ?vo_w64) (w1 := (w62.setCell ⟨go52, ((ji53) : Int).toNat, none⟩ (.int .i64 ji46))) ?hg ?ho ?hn ?hr ?_; (case ho => rfl); (case hg => rfl); (case hn => rfl); (case hr => first | (go_simp; done) | (go_simp; rfl)); intro w64 hw; have hg : w62.grownBy w64 (some go52) := (by rw [hw]; exact HP63.2); have hp_ : Kd.R (Kd.int .i64) 3 w64 w.heap.size (fun k_ => some k_ ≠ (.slice (some ⟨go45, 0, none⟩) x4_1.length co45 : Value).ownBlock) (.slice (some ⟨go52, 0, none⟩) x5_1.length co52) y246 := (by rw [hw, Ny246.out]; exact HP63.1); clear HP63; have n0_ := Aside0.mk (Kd.R_after (v := (.slice (some ⟨go52, 0, none⟩) x5_1.length co52)) (v1 := (.slice (some ⟨go52, 0, none⟩) x5_1.length co52)) (ok := (fun _ => True)) (by (with_reducible repeat (first | apply Kd.R_alloc | apply Kd.R_drewN | apply Kd.R_drew)); exact HO_4.out) hg (.inl rfl)); have n1_ := Aside0.mk (hp_); have n2_ := Aside0.mk ((by rw [hw]; exact below_set (HB.out) GB52.out : Below w.heap.size w w64)); clear HO_4; clear HO_5; clear HB; have HO_4 := n0_; have HO_5 := n1_; have HB := n2_; clear n0_ n1_ n2_; clear hg hw hp_))
                  repeat (go_quiet (first | (go_at_call 29; (with_reducible refine (spec_l8Partner.calls k1 a0 x6_1 t236 _ A10.out).mono ?_); rintro e w' ⟨rfl, ⟨nd, rfl⟩⟩; (try first | exact ⟨rfl, _, World.drewN_drewN _ _ _⟩ | exact ⟨rfl, _, Eq.trans (World.drewN_drewN _ _ _) (congrArg (World.drewN _) (Nat.add_assoc _ _ _))⟩); have p12 : 0 ≤ (x6_1 : Int) := of_decide_eq_true (by first | (with_reducible assumption) | assumption); have q12 : x6_1 < (a0.size : Int) := of_decide_eq_true (by first | (with_reducible assumption) | assumption); have hx12 := bt_at a0 x6_1; replace p12 := eq_true p12; replace q12 := eq_true q12) | (go_at_call 45; (with_reducible refine (spec_l8Small.calls (bt a0 x6_1) t237 _ A13.out).mono ?_); rintro e w' ⟨rfl, ⟨nd, rfl⟩⟩; (try first | exact ⟨rfl, _, World.drewN_drewN _ _ _⟩ | exact ⟨rfl, _, Eq.trans (World.drewN_drewN _ _ _) (congrArg (World.drewN _) (Nat.add_assoc _ _ _))⟩); have p16 : 0 ≤ (t236 : Int) := of_decide_eq_true (by first | (with_reducible assumption) | assumption); have q16 : t236 < (a0.size : Int) := of_decide_eq_true (by first | (with_reducible assumption) | assumption); have hx16 := bt_at a0 t236; replace p16 := eq_true p16; replace q16 := eq_true q16) | (go_at_call 45; (with_reducible refine (spec_l8Small.calls (bt a0 t236) t238 _ A17.out).mono ?_); rintro e w' ⟨rfl, ⟨nd, rfl⟩⟩; (try first | exact ⟨rfl, _, World.drewN_drewN _ _ _⟩ | exact ⟨rfl, _, Eq.trans (World.drewN_drewN _ _ _) (congrArg (World.drewN _) (Nat.add_assoc _ _ _))⟩); have p45 : 0 ≤ ((ji42) : Int) := of_decide_eq_true (by first | (with_reducible assumption) | assumption); have q45 : ((ji42) : Int) < ((x4_1.length : Int) : Int) := of_decide_eq_true (by first | (with_reducible assumption) | assumption); obtain ⟨go45, co45, eo45, gb45, gl45, cl45, HG45⟩ := Kd.R_form HO_4.out (by omega); (first | cases eo45 | (injection eo45 with ea_ en_ ec_; (first | subst ea_ | (injection ea_ with ea_; subst ea_)); subst ec_; clear en_)); have GB45 := Aside0.mk gb45; have GG45 := Aside0.mk HG45; clear gb45 gl45 HG45; obtain ⟨hx45_0, hf45_0⟩ := Kd.R_celln 0 HO_4.out ((ji42) : Int) p45 q45; replace p45 := eq_true p45; replace q45 := eq_true q45; obtain ⟨hy57_, hz57_⟩ := Kd.R_celln 0 HO_4.out ((ji42) : Int) (of_decide_eq_true (by first | (with_reducible assumption) | assumption)) (of_decide_eq_true (by first | (with_reducible assumption) | assumption)); have HP57 := Kd.R_putg HO_4.out ((ji42) : Int) (wrap64 ((wrap64 (2 * t236)) + 0))) | ((with_reducible refine gate_store (t := 3) (p := 44) rfl ?_); (try (rw [drewN_self wr]; generalize hq_ : World.drewN wr _ = wr; have n0_ := Aside0.mk (Kd.R_at hq_ HO_4.out); have n1_ := Aside0.mk (Kd.R_at hq_ HO_5.out); have n2_ := Aside0.mk (below_at hq_ HB.out); clear hq_ HO_4 HO_5 HB; have HO_4 := n0_; have HO_5 := n1_; have HB := n2_; clear n0_ n1_ n2_; (try (obtain ⟨hy57_, hz57_⟩ := Kd.R_celln 0 HO_4.out ((ji42) : Int) (of_decide_eq_true (by first | (with_reducible assumption) | assumption)) (of_decide_eq_true (by first | (with_reducible assumption) | assumption)))); (try (have HP57 := Kd.R_putg HO_4.out ((ji42) : Int) (wrap64 ((wrap64 (2 * t236)) + 0)))))); refine store_event (t := 3) (p := 44) (v := ?vo_w58) (w1 := (wr.setCell ⟨go45, ((ji42) : Int).toNat, none⟩ (.int .i64 (wrap64 ((wrap64 (2 * t236)) + 0))))) ?hg ?ho ?hn ?hr ?_; (case ho => rfl); (case hg => rfl); (case hn => rfl); (case hr => first | (go_simp; done) | (go_simp; rfl)); intro w58 hw; have hg : wr.grownBy w58 (some go45) := (by rw [hw]; exact HP57.2); have hp_ : Kd.R (Kd.int .i64) 3 w58 w.heap.size (fun k_ => some k_ ≠ (v234 : Value).ownBlock) (.slice (some ⟨go45, 0, none⟩) x4_1.length co45) y243 := (by rw [hw, Ny243.out]; exact HP57.1); clear HP57; have n0_ := Aside0.mk (hp_); have n1_ := Aside0.mk (Kd.R_after (v := (.slice (some ⟨go45, 0, none⟩) x4_1.length co45)) (v1 := (.slice (some ⟨go45, 0, none⟩) x4_1.length co45)) (ok := (fun _ => True)) (by (with_reducible repeat (first | apply Kd.R_alloc | apply Kd.R_drewN | apply Kd.R_drew)); exact Kd.R_mono HO_5.out (fun _ hk => ⟨trivial, hk⟩)) hg (.inl rfl)); have n2_ := Aside0.mk ((by rw [hw]; exact below_set (HB.out) GB45.out : Below w.heap.size w w58)); clear HO_4; clear HO_5; clear HB; have HO_4 := n0_; have HO_5 := n1_; have HB := n2_; clear n0_ n1_ n2_; clear hg hw hp_; have p49 : 0 ≤ ((ji46) : Int) := of_decide_eq_true (by first | (with_reducible assumption) | assumption); have q49 : ((ji46) : Int) < ((x4_1.length : Int) : Int) := of_decide_eq_true (by first | (with_reducible assumption) | assumption); obtain ⟨hx49_0, hf49_0⟩ := Kd.R_celln 0 HO_4.out ((ji46) : Int) p49 q49; replace p49 := eq_true p49; replace q49 := eq_true q49; obtain ⟨hy59_, hz59_⟩ := Kd.R_celln 0 HO_4.out ((ji46) : Int) (of_decide_eq_true (by first | (with_reducible assumption) | assumption)) (of_decide_eq_true (by first | (with_reducible assumption) | assumption)); have HP59 := Kd.R_putg HO_4.out ((ji46) : Int) (wrap64 ((wrap64 ((wrap64 (2 * t236)) + 1)) - 0))) | ((with_reducible refine gate_store (t := 3) (p := 54) rfl ?_); (try (rw [drewN_self w58]; generalize hq_ : World.drewN w58 _ = w58; have n0_ := Aside0.mk (Kd.R_at hq_ HO_4.out); have n1_ := Aside0.mk (Kd.R_at hq_ HO_5.out); have n2_ := Aside0.mk (below_at hq_ HB.out); clear hq_ HO_4 HO_5 HB; have HO_4 := n0_; have HO_5 := n1_; have HB := n2_; clear n0_ n1_ n2_; (try (obtain ⟨hy59_, hz59_⟩ := Kd.R_celln 0 HO_4.out ((ji46) : Int) (of_decide_eq_true (by first | (with_reducible assumption) | assumption)) (of_decide_eq_true (by first | (with_reducible assumption) | assumption)))); (try (have HP59 := Kd.R_putg HO_4.out ((ji46) : Int) (wrap64 ((wrap64 ((wrap64 (2 * t236)) + 1)) - 0)))))); refine store_event (t := 3) (p := 54) (v := ?vo_w60) (w1 := (w58.setCell ⟨go45, ((ji46) : Int).toNat, none⟩ (.int .i64 (wrap64 ((wrap64 ((wrap64 (2 * t236)) + 1)) - 0))))) ?hg ?ho ?hn ?hr ?_; (case ho => rfl); (case hg => rfl); (case hn => rfl); (case hr => first | (go_simp; done) | (go_simp; rfl)); intro w60 hw; have hg : w58.grownBy w60 (some go45) := (by rw [hw]; exact HP59.2); have hp_ : Kd.R (Kd.int .i64) 3 w60 w.heap.size (fun k_ => some k_ ≠ (v234 : Value).ownBlock) (.slice (some ⟨go45, 0, none⟩) x4_1.length co45) y244 := (by rw [hw, Ny244.out]; exact HP59.1); clear HP59; have n0_ := Aside0.mk (hp_); have n1_ := Aside0.mk (Kd.R_after (v := (.slice (some ⟨go45, 0, none⟩) x4_1.length co45)) (v1 := (.slice (some ⟨go45, 0, none⟩) x4_1.length co45)) (ok := (fun _ => True)) (by (with_reducible repeat (first | apply Kd.R_alloc | apply Kd.R_drewN | apply Kd.R_drew)); exact HO_5.out) hg (.inl rfl)); have n2_ := Aside0.mk ((by rw [hw]; exact below_set (HB.out) GB45.out : Below w.heap.size w w60)); clear HO_4; clear HO_5; clear HB; have HO_4 := n0_; have HO_5 := n1_; have HB := n2_; clear n0_ n1_ n2_; clear hg hw hp_; have p52 : 0 ≤ ((ji46) : Int) := of_decide_eq_true (by first | (with_reducible assumption) | assumption); have q52 : ((ji46) : Int) < ((x5_1.length : Int) : Int) := of_decide_eq_true (by first | (with_reducible assumption) | assumption); obtain ⟨go52, co52, eo52, gb52, gl52, cl52, HG52⟩ := Kd.R_form HO_5.out (by omega); (first | cases eo52 | (injection eo52 with ea_ en_ ec_; (first | subst ea_ | (injection ea_ with ea_; subst ea_)); subst ec_; clear en_)); have GB52 := Aside0.mk gb52; have GG52 := Aside0.mk HG52; clear gb52 gl52 HG52; obtain ⟨hx52_0, hf52_0⟩ := Kd.R_celln 0 HO_5.out ((ji46) : Int) p52 q52; replace p52 := eq_true p52; replace q52 := eq_true q52; have n_ := Aside0.mk (Kd.R_mono (ok' := (fun k_ => some k_ ≠ (.slice (some ⟨go45, 0, none⟩) x4_1.length co45 : Value).ownBlock)) HO_5.out (fun k_ hk => hk.2)); clear HO_5; have HO_5 := n_; clear n_; obtain ⟨hy61_, hz61_⟩ := Kd.R_celln 0 HO_5.out ((ji46) : Int) (of_decide_eq_true (by first | (with_reducible assumption) | assumption)) (of_decide_eq_true (by first | (with_reducible assumption) | assumption)); have HP61 := Kd.R_putg HO_5.out ((ji46) : Int) ji53) | ((with_reducible refine gate_store (t := 3) (p := 64) rfl ?_); (try (rw [drewN_self w60]; generalize hq_ : World.drewN w60 _ = w60; have n0_ := Aside0.mk (Kd.R_at hq_ HO_4.out); have n1_ := Aside0.mk (Kd.R_at hq_ HO_5.out); have n2_ := Aside0.mk (below_at hq_ HB.out); clear hq_ HO_4 HO_5 HB; have HO_4 := n0_; have HO_5 := n1_; have HB := n2_; clear n0_ n1_ n2_; (try (have n_ := Aside0.mk (Kd.R_mono (ok' := (fun k_ => some k_ ≠ (.slice (some ⟨go45, 0, none⟩) x4_1.length co45 : Value).ownBlock)) HO_5.out (fun k_ hk => hk.2)); clear HO_5; have HO_5 := n_; clear n_)); (try (obtain ⟨hy61_, hz61_⟩ := Kd.R_celln 0 HO_5.out ((ji46) : Int) (of_decide_eq_true (by first | (with_reducible assumption) | assumption)) (of_decide_eq_true (by first | (with_reducible assumption) | assumption)))); (try (have HP61 := Kd.R_putg HO_5.out ((ji46) : Int) ji53)))); refine store_event (t := 3) (p := 64) (v := ?vo_w62) (w1 := (w60.setCell ⟨go52, ((ji46) : Int).toNat, none⟩ (.int .i64 ji53))) ?hg ?ho ?hn ?hr ?_; (case ho => rfl); (case hg => rfl); (case hn => rfl); (case hr => first | (go_simp; done) | (go_simp; rfl)); intro w62 hw; have hg : w60.grownBy w62 (some go52) := (by rw [hw]; exact HP61.2); have hp_ : Kd.R (Kd.int .i64) 3 w62 w.heap.size (fun k_ => some k_ ≠ (.slice (some ⟨go45, 0, none⟩) x4_1.length co45 : Value).ownBlock) (.slice (some ⟨go52, 0, none⟩) x5_1.length co52) y245 := (by rw [hw, Ny245.out]; exact HP61.1); clear HP61; have n0_ := Aside0.mk (Kd.R_after (v := (.slice (some ⟨go52, 0, none⟩) x5_1.length co52)) (v1 := (.slice (some ⟨go52, 0, none⟩) x5_1.length co52)) (ok := (fun _ => True)) (by (with_reducible repeat (first | apply Kd.R_alloc | apply Kd.R_drewN | apply Kd.R_drew)); exact Kd.R_mono HO_4.out (fun _ hk => ⟨trivial, hk⟩)) hg (.inl rfl)); have n1_ := Aside0.mk (hp_); have n2_ := Aside0.mk ((by rw [hw]; exact below_set (HB.out) GB52.out : Below w.heap.size w w62)); clear HO_4; clear HO_5; clear HB; have HO_4 := n0_; have HO_5 := n1_; have HB := n2_; clear n0_ n1_ n2_; clear hg hw hp_; have p56 : 0 ≤ ((ji53) : Int) := of_decide_eq_true (by first | (with_reducible assumption) | assumption); have q56 : ((ji53) : Int) < ((x5_1.length : Int) : Int) := of_decide_eq_true (by first | (with_reducible assumption) | assumption); obtain ⟨hx56_0, hf56_0⟩ := Kd.R_celln 0 HO_5.out ((ji53) : Int) p56 q56; replace p56 := eq_true p56; replace q56 := eq_true q56; obtain ⟨hy63_, hz63_⟩ := Kd.R_celln 0 HO_5.out ((ji53) : Int) (of_decide_eq_true (by first | (with_reducible assumption) | assumption)) (of_decide_eq_true (by first | (with_reducible assumption) | assumption)); have HP63 := Kd.R_putg HO_5.out ((ji53) : Int) ji46) | ((with_reducible refine gate_store (t := 3) (p := 74) rfl ?_); (try (rw [drewN_self w62]; generalize hq_ : World.drewN w62 _ = w62; have n0_ := Aside0.mk (Kd.R_at hq_ HO_4.out); have n1_ := Aside0.mk (Kd.R_at hq_ HO_5.out); have n2_ := Aside0.mk (below_at hq_ HB.out); clear hq_ HO_4 HO_5 HB; have HO_4 := n0_; have HO_5 := n1_; have HB := n2_; clear n0_ n1_ n2_; (try (obtain ⟨hy63_, hz63_⟩ := Kd.R_celln 0 HO_5.out ((ji53) : Int) (of_decide_eq_true (by first | (with_reducible assumption) | assumption)) (of_decide_eq_true (by first | (with_reducible assumption) | assumption)))); (try (have HP63 := Kd.R_putg HO_5.out ((ji53) : Int) ji46)))); refine store_event (t := 3) (p := 74) (v := ?vo_w64) (w1 := (w62.setCell ⟨go52, ((ji53) : Int).toNat, none⟩ (.int .i64 ji46))) ?hg ?ho ?hn ?hr ?_; (case ho => rfl); (case hg => rfl); (case hn => rfl); (case hr => first | (go_simp; done) | (go_simp; rfl)); intro w64 hw; have hg : w62.grownBy w64 (some go52) := (by rw [hw]; exact HP63.2); have hp_ : Kd.R (Kd.int .i64) 3 w64 w.heap.size (fun k_ => some k_ ≠ (.slice (some ⟨go45, 0, none⟩) x4_1.length co45 : Value).ownBlock) (.slice (some ⟨go52, 0, none⟩) x5_1.length co52) y246 := (by rw [hw, Ny246.out]; exact HP63.1); clear HP63; have n0_ := Aside0.mk (Kd.R_after (v := (.slice (some ⟨go52, 0, none⟩) x5_1.length co52)) (v1 := (.slice (some ⟨go52, 0, none⟩) x5_1.length co52)) (ok := (fun _ => True)) (by (with_reducible repeat (first | apply Kd.R_alloc | apply Kd.R_drewN | apply Kd.R_drew)); exact HO_4.out) hg (.inl rfl)); have n1_ := Aside0.mk (hp_); have n2_ := Aside0.mk ((by rw [hw]; exact below_set (HB.out) GB52.out : Below w.heap.size w w64)); clear HO_4; clear HO_5; clear HB; have HO_4 := n0_; have HO_5 := n1_; have HB := n2_; clear n0_ n1_ n2_; clear hg hw hp_)); try go_wp2_with (first | (go_at_call 29; (with_reducible refine (spec_l8Partner.calls k1 a0 x6_1 t236 _ A10.out).mono ?_); rintro e w' ⟨rfl, ⟨nd, rfl⟩⟩; (try first | exact ⟨rfl, _, World.drewN_drewN _ _ _⟩ | exact ⟨rfl, _, Eq.trans (World.drewN_drewN _ _ _) (congrArg (World.drewN _) (Nat.add_assoc _ _ _))⟩); have p12 : 0 ≤ (x6_1 : Int) := of_decide_eq_true (by first | (with_reducible assumption) | assumption); have q12 : x6_1 < (a0.size : Int) := of_decide_eq_true (by first | (with_reducible assumption) | assumption); have hx12 := bt_at a0 x6_1; replace p12 := eq_true p12; replace q12 := eq_true q12) | (go_at_call 45; (with_reducible refine (spec_l8Small.calls (bt a0 x6_1) t237 _ A13.out).mono ?_); rintro e w' ⟨rfl, ⟨nd, rfl⟩⟩; (try first | exact ⟨rfl, _, World.drewN_drewN _ _ _⟩ | exact ⟨rfl, _, Eq.trans (World.drewN_drewN _ _ _) (congrArg (World.drewN _) (Nat.add_assoc _ _ _))⟩); have p16 : 0 ≤ (t236 : Int) := of_decide_eq_true (by first | (with_reducible assumption) | assumption); have q16 : t236 < (a0.size : Int) := of_decide_eq_true (by first | (with_reducible assumption) | assumption); have hx16 := bt_at a0 t236; replace p16 := eq_true p16; replace q16 := eq_true q16) | (go_at_call 45; (with_reducible refine (spec_l8Small.calls (bt a0 t236) t238 _ A17.out).mono ?_); rintro e w' ⟨rfl, ⟨nd, rfl⟩⟩; (try first | exact ⟨rfl, _, World.drewN_drewN _ _ _⟩ | exact ⟨rfl, _, Eq.trans (World.drewN_drewN _ _ _) (congrArg (World.drewN _) (Nat.add_assoc _ _ _))⟩); have p45 : 0 ≤ ((ji42) : Int) := of_decide_eq_true (by first | (with_reducible assumption) | assumption); have q45 : ((ji42) : Int) < ((x4_1.length : Int) : Int) := of_decide_eq_true (by first | (with_reducible assumption) | assumption); obtain ⟨go45, co45, eo45, gb45, gl45, cl45, HG45⟩ := Kd.R_form HO_4.out (by omega); (first | cases eo45 | (injection eo45 with ea_ en_ ec_; (first | subst ea_ | (injection ea_ with ea_; subst ea_)); subst ec_; clear en_)); have GB45 := Aside0.mk gb45; have GG45 := Aside0.mk HG45; clear gb45 gl45 HG45; obtain ⟨hx45_0, hf45_0⟩ := Kd.R_celln 0 HO_4.out ((ji42) : Int) p45 q45; replace p45 := eq_true p45; replace q45 := eq_true q45; obtain ⟨hy57_, hz57_⟩ := Kd.R_celln 0 HO_4.out ((ji42) : Int) (of_decide_eq_true (by first | (with_reducible assumption) | assumption)) (of_decide_eq_true (by first | (with_reducible assumption) | assumption)); have HP57 := Kd.R_putg HO_4.out ((ji42) : Int) (wrap64 ((wrap64 (2 * t236)) + 0))) | ((with_reducible refine gate_store (t := 3) (p := 44) rfl ?_); (try (rw [drewN_self wr]; generalize hq_ : World.drewN wr _ = wr; have n0_ := Aside0.mk (Kd.R_at hq_ HO_4.out); have n1_ := Aside0.mk (Kd.R_at hq_ HO_5.out); have n2_ := Aside0.mk (below_at hq_ HB.out); clear hq_ HO_4 HO_5 HB; have HO_4 := n0_; have HO_5 := n1_; have HB := n2_; clear n0_ n1_ n2_; (try (obtain ⟨hy57_, hz57_⟩ := Kd.R_celln 0 HO_4.out ((ji42) : Int) (of_decide_eq_true (by first | (with_reducible assumption) | assumption)) (of_decide_eq_true (by first | (with_reducible assumption) | assumption)))); (try (have HP57 := Kd.R_putg HO_4.out ((ji42) : Int) (wrap64 ((wrap64 (2 * t236)) + 0)))))); refine store_event (t := 3) (p := 44) (v := ?vo_w58) (w1 := (wr.setCell ⟨go45, ((ji42) : Int).toNat, none⟩ (.int .i64 (wrap64 ((wrap64 (2 * t236)) + 0))))) ?hg ?ho ?hn ?hr ?_; (case ho => rfl); (case hg => rfl); (case hn => rfl); (case hr => first | (go_simp; done) | (go_simp; rfl)); intro w58 hw; have hg : wr.grownBy w58 (some go45) := (by rw [hw]; exact HP57.2); have hp_ : Kd.R (Kd.int .i64) 3 w58 w.heap.size (fun k_ => some k_ ≠ (v234 : Value).ownBlock) (.slice (some ⟨go45, 0, none⟩) x4_1.length co45) y243 := (by rw [hw, Ny243.out]; exact HP57.1); clear HP57; have n0_ := Aside0.mk (hp_); have n1_ := Aside0.mk (Kd.R_after (v := (.slice (some ⟨go45, 0, none⟩) x4_1.length co45)) (v1 := (.slice (some ⟨go45, 0, none⟩) x4_1.length co45)) (ok := (fun _ => True)) (by (with_reducible repeat (first | apply Kd.R_alloc | apply Kd.R_drewN | apply Kd.R_drew)); exact Kd.R_mono HO_5.out (fun _ hk => ⟨trivial, hk⟩)) hg (.inl rfl)); have n2_ := Aside0.mk ((by rw [hw]; exact below_set (HB.out) GB45.out : Below w.heap.size w w58)); clear HO_4; clear HO_5; clear HB; have HO_4 := n0_; have HO_5 := n1_; have HB := n2_; clear n0_ n1_ n2_; clear hg hw hp_; have p49 : 0 ≤ ((ji46) : Int) := of_decide_eq_true (by first | (with_reducible assumption) | assumption); have q49 : ((ji46) : Int) < ((x4_1.length : Int) : Int) := of_decide_eq_true (by first | (with_reducible assumption) | assumption); obtain ⟨hx49_0, hf49_0⟩ := Kd.R_celln 0 HO_4.out ((ji46) : Int) p49 q49; replace p49 := eq_true p49; replace q49 := eq_true q49; obtain ⟨hy59_, hz59_⟩ := Kd.R_celln 0 HO_4.out ((ji46) : Int) (of_decide_eq_true (by first | (with_reducible assumption) | assumption)) (of_decide_eq_true (by first | (with_reducible assumption) | assumption)); have HP59 := Kd.R_putg HO_4.out ((ji46) : Int) (wrap64 ((wrap64 ((wrap64 (2 * t236)) + 1)) - 0))) | ((with_reducible refine gate_store (t := 3) (p := 54) rfl ?_); (try (rw [drewN_self w58]; generalize hq_ : World.drewN w58 _ = w58; have n0_ := Aside0.mk (Kd.R_at hq_ HO_4.out); have n1_ := Aside0.mk (Kd.R_at hq_ HO_5.out); have n2_ := Aside0.mk (below_at hq_ HB.out); clear hq_ HO_4 HO_5 HB; have HO_4 := n0_; have HO_5 := n1_; have HB := n2_; clear n0_ n1_ n2_; (try (obtain ⟨hy59_, hz59_⟩ := Kd.R_celln 0 HO_4.out ((ji46) : Int) (of_decide_eq_true (by first | (with_reducible assumption) | assumption)) (of_decide_eq_true (by first | (with_reducible assumption) | assumption)))); (try (have HP59 := Kd.R_putg HO_4.out ((ji46) : Int) (wrap64 ((wrap64 ((wrap64 (2 * t236)) + 1)) - 0)))))); refine store_event (t := 3) (p := 54) (v := ?vo_w60) (w1 := (w58.setCell ⟨go45, ((ji46) : Int).toNat, none⟩ (.int .i64 (wrap64 ((wrap64 ((wrap64 (2 * t236)) + 1)) - 0))))) ?hg ?ho ?hn ?hr ?_; (case ho => rfl); (case hg => rfl); (case hn => rfl); (case hr => first | (go_simp; done) | (go_simp; rfl)); intro w60 hw; have hg : w58.grownBy w60 (some go45) := (by rw [hw]; exact HP59.2); have hp_ : Kd.R (Kd.int .i64) 3 w60 w.heap.size (fun k_ => some k_ ≠ (v234 : Value).ownBlock) (.slice (some ⟨go45, 0, none⟩) x4_1.length co45) y244 := (by rw [hw, Ny244.out]; exact HP59.1); clear HP59; have n0_ := Aside0.mk (hp_); have n1_ := Aside0.mk (Kd.R_after (v := (.slice (some ⟨go45, 0, none⟩) x4_1.length co45)) (v1 := (.slice (some ⟨go45, 0, none⟩) x4_1.length co45)) (ok := (fun _ => True)) (by (with_reducible repeat (first | apply Kd.R_alloc | apply Kd.R_drewN | apply Kd.R_drew)); exact HO_5.out) hg (.inl rfl)); have n2_ := Aside0.mk ((by rw [hw]; exact below_set (HB.out) GB45.out : Below w.heap.size w w60)); clear HO_4; clear HO_5; clear HB; have HO_4 := n0_; have HO_5 := n1_; have HB := n2_; clear n0_ n1_ n2_; clear hg hw hp_; have p52 : 0 ≤ ((ji46) : Int) := of_decide_eq_true (by first | (with_reducible assumption) | assumption); have q52 : ((ji46) : Int) < ((x5_1.length : Int) : Int) := of_decide_eq_true (by first | (with_reducible assumption) | assumption); obtain ⟨go52, co52, eo52, gb52, gl52, cl52, HG52⟩ := Kd.R_form HO_5.out (by omega); (first | cases eo52 | (injection eo52 with ea_ en_ ec_; (first | subst ea_ | (injection ea_ with ea_; subst ea_)); subst ec_; clear en_)); have GB52 := Aside0.mk gb52; have GG52 := Aside0.mk HG52; clear gb52 gl52 HG52; obtain ⟨hx52_0, hf52_0⟩ := Kd.R_celln 0 HO_5.out ((ji46) : Int) p52 q52; replace p52 := eq_true p52; replace q52 := eq_true q52; have n_ := Aside0.mk (Kd.R_mono (ok' := (fun k_ => some k_ ≠ (.slice (some ⟨go45, 0, none⟩) x4_1.length co45 : Value).ownBlock)) HO_5.out (fun k_ hk => hk.2)); clear HO_5; have HO_5 := n_; clear n_; obtain ⟨hy61_, hz61_⟩ := Kd.R_celln 0 HO_5.out ((ji46) : Int) (of_decide_eq_true (by first | (with_reducible assumption) | assumption)) (of_decide_eq_true (by first | (with_reducible assumption) | assumption)); have HP61 := Kd.R_putg HO_5.out ((ji46) : Int) ji53) | ((with_reducible refine gate_store (t := 3) (p := 64) rfl ?_); (try (rw [drewN_self w60]; generalize hq_ : World.drewN w60 _ = w60; have n0_ := Aside0.mk (Kd.R_at hq_ HO_4.out); have n1_ := Aside0.mk (Kd.R_at hq_ HO_5.out); have n2_ := Aside0.mk (below_at hq_ HB.out); clear hq_ HO_4 HO_5 HB; have HO_4 := n0_; have HO_5 := n1_; have HB := n2_; clear n0_ n1_ n2_; (try (have n_ := Aside0.mk (Kd.R_mono (ok' := (fun k_ => some k_ ≠ (.slice (some ⟨go45, 0, none⟩) x4_1.length co45 : Value).ownBlock)) HO_5.out (fun k_ hk => hk.2)); clear HO_5; have HO_5 := n_; clear n_)); (try (obtain ⟨hy61_, hz61_⟩ := Kd.R_celln 0 HO_5.out ((ji46) : Int) (of_decide_eq_true (by first | (with_reducible assumption) | assumption)) (of_decide_eq_true (by first | (with_reducible assumption) | assumption)))); (try (have HP61 := Kd.R_putg HO_5.out ((ji46) : Int) ji53)))); refine store_event (t := 3) (p := 64) (v := ?vo_w62) (w1 := (w60.setCell ⟨go52, ((ji46) : Int).toNat, none⟩ (.int .i64 ji53))) ?hg ?ho ?hn ?hr ?_; (case ho => rfl); (case hg => rfl); (case hn => rfl); (case hr => first | (go_simp; done) | (go_simp; rfl)); intro w62 hw; have hg : w60.grownBy w62 (some go52) := (by rw [hw]; exact HP61.2); have hp_ : Kd.R (Kd.int .i64) 3 w62 w.heap.size (fun k_ => some k_ ≠ (.slice (some ⟨go45, 0, none⟩) x4_1.length co45 : Value).ownBlock) (.slice (some ⟨go52, 0, none⟩) x5_1.length co52) y245 := (by rw [hw, Ny245.out]; exact HP61.1); clear HP61; have n0_ := Aside0.mk (Kd.R_after (v := (.slice (some ⟨go52, 0, none⟩) x5_1.length co52)) (v1 := (.slice (some ⟨go52, 0, none⟩) x5_1.length co52)) (ok := (fun _ => True)) (by (with_reducible repeat (first | apply Kd.R_alloc | apply Kd.R_drewN | apply Kd.R_drew)); exact Kd.R_mono HO_4.out (fun _ hk => ⟨trivial, hk⟩)) hg (.inl rfl)); have n1_ := Aside0.mk (hp_); have n2_ := Aside0.mk ((by rw [hw]; exact below_set (HB.out) GB52.out : Below w.heap.size w w62)); clear HO_4; clear HO_5; clear HB; have HO_4 := n0_; have HO_5 := n1_; have HB := n2_; clear n0_ n1_ n2_; clear hg hw hp_; have p56 : 0 ≤ ((ji53) : Int) := of_decide_eq_true (by first | (with_reducible assumption) | assumption); have q56 : ((ji53) : Int) < ((x5_1.length : Int) : Int) := of_decide_eq_true (by first | (with_reducible assumption) | assumption); obtain ⟨hx56_0, hf56_0⟩ := Kd.R_celln 0 HO_5.out ((ji53) : Int) p56 q56; replace p56 := eq_true p56; replace q56 := eq_true q56; obtain ⟨hy63_, hz63_⟩ := Kd.R_celln 0 HO_5.out ((ji53) : Int) (of_decide_eq_true (by first | (with_reducible assumption) | assumption)) (of_decide_eq_true (by first | (with_reducible assumption) | assumption)); have HP63 := Kd.R_putg HO_5.out ((ji53) : Int) ji46) | ((with_reducible refine gate_store (t := 3) (p := 74) rfl ?_); (try (rw [drewN_self w62]; generalize hq_ : World.drewN w62 _ = w62; have n0_ := Aside0.mk (Kd.R_at hq_ HO_4.out); have n1_ := Aside0.mk (Kd.R_at hq_ HO_5.out); have n2_ := Aside0.mk (below_at hq_ HB.out); clear hq_ HO_4 HO_5 HB; have HO_4 := n0_; have HO_5 := n1_; have HB := n2_; clear n0_ n1_ n2_; (try (obtain ⟨hy63_, hz63_⟩ := Kd.R_celln 0 HO_5.out ((ji53) : Int) (of_decide_eq_true (by first | (with_reducible assumption) | assumption)) (of_decide_eq_true (by first | (with_reducible assumption) | assumption)))); (try (have HP63 := Kd.R_putg HO_5.out ((ji53) : Int) ji46)))); refine store_event (t := 3) (p := 74) (v := ?vo_w64) (w1 := (w62.setCell ⟨go52, ((ji53) : Int).toNat, none⟩ (.int .i64 ji46))) ?hg ?ho ?hn ?hr ?_; (case ho => rfl); (case hg => rfl); (case hn => rfl); (case hr => first | (go_simp; done) | (go_simp; rfl)); intro w64 hw; have hg : w62.grownBy w64 (some go52) := (by rw [hw]; exact HP63.2); have hp_ : Kd.R (Kd.int .i64) 3 w64 w.heap.size (fun k_ => some k_ ≠ (.slice (some ⟨go45, 0, none⟩) x4_1.length co45 : Value).ownBlock) (.slice (some ⟨go52, 0, none⟩) x5_1.length co52) y246 := (by rw [hw, Ny246.out]; exact HP63.1); clear HP63; have n0_ := Aside0.mk (Kd.R_after (v := (.slice (some ⟨go52, 0, none⟩) x5_1.length co52)) (v1 := (.slice (some ⟨go52, 0, none⟩) x5_1.length co52)) (ok := (fun _ => True)) (by (with_reducible repeat (first | apply Kd.R_alloc | apply Kd.R_drewN | apply Kd.R_drew)); exact HO_4.out) hg (.inl rfl)); have n1_ := Aside0.mk (hp_); have n2_ := Aside0.mk ((by rw [hw]; exact below_set (HB.out) GB52.out : Below w.heap.size w w64)); clear HO_4; clear HO_5; clear HB; have HO_4 := n0_; have HO_5 := n1_; have HB := n2_; clear n0_ n1_ n2_; clear hg hw hp_)))
                  go_roundg k1
                  case measure => have := HK1.out; omega
                  case rel => exact ⟨(y244), (y246), (wrap64 (x6_1 + 1)), (by first | rfl | (simp; done) | (simp [*]; done)), H', ⟨by have := HK1.out; omega⟩, ⟨by (with_reducible repeat (first | apply Kd.R_alloc | apply Kd.R_drewN | apply Kd.R_drew)); exact Kd.R_mono HO_4.out (fun _ hk => hk.2)⟩, ⟨by (with_reducible repeat (first | apply Kd.R_alloc | apply Kd.R_drewN | apply Kd.R_drew)); exact HO_5.out⟩, ⟨by repeat (first | (with_reducible first | exact HB.out | apply below_alloc | apply pw_below_drewN | apply below_drew1) | exact HB.out)⟩⟩
                 ·rw [if_neg c55] at H
                  exact absurd H (by simp)
                ·rw [if_neg c54] at H
                 exact absurd H (by simp)
               ·rw [if_neg c51] at H
                exact absurd H (by simp)
             ·rw [if_neg c48] at H
              exact absurd H (by simp)
            ·rw [if_neg c47] at H
             exact absurd H (by simp)
           ·rw [if_neg c44] at H
            exact absurd H (by simp)
          ·rw [if_neg c43] at H
           exact absurd H (by simp)
        ·rw [if_neg c15] at H
         exact absurd H (by simp)
       ·rw [if_neg c14] at H
        exact absurd H (by simp)
      ·rw [if_neg c11] at H
       exact absurd H (by simp)
     ·rw [if_neg c9] at H
      have c9b0 : decide (x6_1 < (a0.size : Int)) = false := decide_eq_false c9
      clear c9
      replace H := Option.bind_eq_some_iff.mp H
      obtain ⟨t247, A650, H⟩ := H
      replace H : (spec_l8Corners.l1 k1 ji2 t247 0 0) = some r := H
      have A65 := Aside0.mk A650
      clear A650
      have H' := Aside0.mk H
      clear H
      obtain ⟨Ao66, co66, eo66⟩ := Kd.R_slice HO_4.out
      subst eo66
      obtain ⟨Ao67, co67, eo67⟩ := Kd.R_slice HO_5.out
      subst eo67
      go_wp2_with (first | (go_at_call 49; (with_reducible refine (spec_l1Orbits.calls k1 _ _ x4_1 _ _ x5_1 t247 _ ?side1 ?side2 ?side3 ?side4 A65.out).mono ?_); (case side1 => repeat (first | exact (Kd.R_reads' HO_4.out).2.2 | (with_reducible refine Kd.C_alloc ?_ _) | (with_reducible refine Kd.C_drewN ?_ _) | (with_reducible refine Kd.C_drew ?_))); (case side2 => exact (Kd.R_reads' HO_4.out).2.1); (case side3 => repeat (first | exact (Kd.R_reads' HO_5.out).2.2 | (with_reducible refine Kd.C_alloc ?_ _) | (with_reducible refine Kd.C_drewN ?_ _) | (with_reducible refine Kd.C_drew ?_))); (case side4 => exact (Kd.R_reads' HO_5.out).2.1); rintro e w68 ⟨v248, rfl, ho0, hb⟩; have n0_ := Aside0.mk (Kd.R_elder' (by (with_reducible repeat (first | apply Kd.R_alloc | apply Kd.R_drewN | apply Kd.R_drew)); exact HO_4.out) (Kd.R_base ho0) hb); have n1_ := Aside0.mk (Kd.R_elder' (by (with_reducible repeat (first | apply Kd.R_alloc | apply Kd.R_drewN | apply Kd.R_drew)); exact HO_5.out) (Kd.R_base ho0) hb); have n2_ := Aside0.mk (Kd.R_lower (Kd.R_new' (Kd.R_new' ho0 (Kd.R_lt (by (with_reducible repeat (first | apply Kd.R_alloc | apply Kd.R_drewN | apply Kd.R_drew)); exact HO_4.out))) (Kd.R_lt (by (with_reducible repeat (first | apply Kd.R_alloc | apply Kd.R_drewN | apply Kd.R_drew)); exact HO_5.out))) (below_size (by repeat (first | (with_reducible first | exact HB.out | apply below_alloc | apply pw_below_drewN | apply below_drew1) | exact HB.out)))); have n3_ := Aside0.mk (below_step (by repeat (first | (with_reducible first | exact HB.out | apply below_alloc | apply pw_below_drewN | apply below_drew1) | exact HB.out)) hb); clear HO_4; clear HO_5; clear HB; have HO_4 := n0_; have HO_5 := n1_; have HO249 := n2_; have HB := n3_; clear n0_ n1_ n2_ n3_; (try clear hb); (try clear hb2); (try clear hk); (try clear hi); (try clear ho0)))
      repeat (go_quiet (first | (go_at_call 49; (with_reducible refine (spec_l1Orbits.calls k1 _ _ x4_1 _ _ x5_1 t247 _ ?side1 ?side2 ?side3 ?side4 A65.out).mono ?_); (case side1 => repeat (first | exact (Kd.R_reads' HO_4.out).2.2 | (with_reducible refine Kd.C_alloc ?_ _) | (with_reducible refine Kd.C_drewN ?_ _) | (with_reducible refine Kd.C_drew ?_))); (case side2 => exact (Kd.R_reads' HO_4.out).2.1); (case side3 => repeat (first | exact (Kd.R_reads' HO_5.out).2.2 | (with_reducible refine Kd.C_alloc ?_ _) | (with_reducible refine Kd.C_drewN ?_ _) | (with_reducible refine Kd.C_drew ?_))); (case side4 => exact (Kd.R_reads' HO_5.out).2.1); rintro e w68 ⟨v248, rfl, ho0, hb⟩; have n0_ := Aside0.mk (Kd.R_elder' (by (with_reducible repeat (first | apply Kd.R_alloc | apply Kd.R_drewN | apply Kd.R_drew)); exact HO_4.out) (Kd.R_base ho0) hb); have n1_ := Aside0.mk (Kd.R_elder' (by (with_reducible repeat (first | apply Kd.R_alloc | apply Kd.R_drewN | apply Kd.R_drew)); exact HO_5.out) (Kd.R_base ho0) hb); have n2_ := Aside0.mk (Kd.R_lower (Kd.R_new' (Kd.R_new' ho0 (Kd.R_lt (by (with_reducible repeat (first | apply Kd.R_alloc | apply Kd.R_drewN | apply Kd.R_drew)); exact HO_4.out))) (Kd.R_lt (by (with_reducible repeat (first | apply Kd.R_alloc | apply Kd.R_drewN | apply Kd.R_drew)); exact HO_5.out))) (below_size (by repeat (first | (with_reducible first | exact HB.out | apply below_alloc | apply pw_below_drewN | apply below_drew1) | exact HB.out)))); have n3_ := Aside0.mk (below_step (by repeat (first | (with_reducible first | exact HB.out | apply below_alloc | apply pw_below_drewN | apply below_drew1) | exact HB.out)) hb); clear HO_4; clear HO_5; clear HB; have HO_4 := n0_; have HO_5 := n1_; have HO249 := n2_; have HB := n3_; clear n0_ n1_ n2_ n3_; (try clear hb); (try clear hb2); (try clear hk); (try clear hi); (try clear ho0))); try go_wp2_with (first | (go_at_call 49; (with_reducible refine (spec_l1Orbits.calls k1 _ _ x4_1 _ _ x5_1 t247 _ ?side1 ?side2 ?side3 ?side4 A65.out).mono ?_); (case side1 => repeat (first | exact (Kd.R_reads' HO_4.out).2.2 | (with_reducible refine Kd.C_alloc ?_ _) | (with_reducible refine Kd.C_drewN ?_ _) | (with_reducible refine Kd.C_drew ?_))); (case side2 => exact (Kd.R_reads' HO_4.out).2.1); (case side3 => repeat (first | exact (Kd.R_reads' HO_5.out).2.2 | (with_reducible refine Kd.C_alloc ?_ _) | (with_reducible refine Kd.C_drewN ?_ _) | (with_reducible refine Kd.C_drew ?_))); (case side4 => exact (Kd.R_reads' HO_5.out).2.1); rintro e w68 ⟨v248, rfl, ho0, hb⟩; have n0_ := Aside0.mk (Kd.R_elder' (by (with_reducible repeat (first | apply Kd.R_alloc | apply Kd.R_drewN | apply Kd.R_drew)); exact HO_4.out) (Kd.R_base ho0) hb); have n1_ := Aside0.mk (Kd.R_elder' (by (with_reducible repeat (first | apply Kd.R_alloc | apply Kd.R_drewN | apply Kd.R_drew)); exact HO_5.out) (Kd.R_base ho0) hb); have n2_ := Aside0.mk (Kd.R_lower (Kd.R_new' (Kd.R_new' ho0 (Kd.R_lt (by (with_reducible repeat (first | apply Kd.R_alloc | apply Kd.R_drewN | apply Kd.R_drew)); exact HO_4.out))) (Kd.R_lt (by (with_reducible repeat (first | apply Kd.R_alloc | apply Kd.R_drewN | apply Kd.R_drew)); exact HO_5.out))) (below_size (by repeat (first | (with_reducible first | exact HB.out | apply below_alloc | apply pw_below_drewN | apply below_drew1) | exact HB.out)))); have n3_ := Aside0.mk (below_step (by repeat (first | (with_reducible first | exact HB.out | apply below_alloc | apply pw_below_drewN | apply below_drew1) | exact HB.out)) hb); clear HO_4; clear HO_5; clear HB; have HO_4 := n0_; have HO_5 := n1_; have HO249 := n2_; have HB := n3_; clear n0_ n1_ n2_ n3_; (try clear hb); (try clear hb2); (try clear hk); (try clear hi); (try clear ho0))))
      go_loopg [10, 11] k1 (fun kq v10 v11 w' => ∃ (x10_2 : Int) (x11_2 : Int), v10 = .int .i64 x10_2 ∧ v11 = .int .i64 x11_2 ∧ Aside0 (spec_l8Corners.l1 kq ji2 t247 x10_2 x11_2 = some r) ∧ Aside0 (kq ≤ k1) ∧ Aside0 (Kd.R (Kd.int .i64) 3 w' w.heap.size (fun _ => True) v248 t247) ∧ Aside0 (Below w.heap.size w w'))
      case atStart => exact ⟨(0), (0), (by first | rfl | (simp; done) | (simp [*]; done)), (by first | rfl | (simp; done) | (simp [*]; done)), H', ⟨Nat.le_refl _⟩, ⟨by (with_reducible repeat (first | apply Kd.R_alloc | apply Kd.R_drewN | apply Kd.R_drew)); exact Kd.R_mono HO249.out (fun _ hk => trivial)⟩, ⟨by repeat (first | (with_reducible first | exact HB.out | apply below_alloc | apply pw_below_drewN | apply below_drew1) | exact HB.out)⟩⟩
      case round =>
       clear H'
       try clear c1
       try clear p1
       try clear q1
       try clear hx1
       try clear c2
       try clear p2
       try clear q2
       try clear hx2
       try clear hf2
       try clear c3
       try clear c3b0
       try clear c3b1
       try clear p3
       try clear q3
       try clear hx3
       try clear hf3
       try clear c4
       try clear c4b0
       try clear c4b1
       try clear p4
       try clear q4
       try clear hx4
       try clear hf4
       try clear c5
       try clear p5
       try clear q5
       try clear hx5
       try clear hf5
       try clear p6
       try clear c9
       try clear c9b0
       try clear c11
       try clear c11b0
       try clear p12
       try clear q12
       try clear hx12
       try clear c14
       try clear c14b0
       try clear c15
       try clear c15b0
       try clear p16
       try clear q16
       try clear hx16
       try clear c18
       try clear c18b0
       try clear c18b1
       try clear c18b2
       try clear c20
       try clear c20b0
       try clear c21
       try clear c21b0
       try clear p22
       try clear q22
       try clear hx22
       try clear hf22
       try clear c24
       try clear c24b0
       try clear c25
       try clear c25b0
       try clear p26
       try clear q26
       try clear hx26
       try clear hf26
       try clear c27
       try clear c27b0
       try clear c27b1
       try clear c28
       try clear c28b0
       try clear p29
       try clear q29
       try clear hx29
       try clear hf29
       try clear c31
       try clear c31b0
       try clear c32
       try clear c32b0
       try clear p33
       try clear q33
       try clear hx33
       try clear hf33
       try clear c35
       try clear c43
       try clear c43b0
       try clear c44
       try clear c44b0
       try clear p45
       try clear q45
       try clear hx45
       try clear hf45
       try clear c47
       try clear c47b0
       try clear c48
       try clear c48b0
       try clear p49
       try clear q49
       try clear hx49
       try clear hf49
       try clear c50
       try clear c50b0
       try clear c50b1
       try clear c51
       try clear c51b0
       try clear p52
       try clear q52
       try clear hx52
       try clear hf52
       try clear c54
       try clear c54b0
       try clear c55
       try clear c55b0
       try clear p56
       try clear q56
       try clear hx56
       try clear hf56
       try clear p64
       try clear hx22_0
       try clear hx26_0
       try clear hx29_0
       try clear hx33_0
       try clear hx45_0
       try clear hx49_0
       try clear hx52_0
       try clear hx56_0
       try clear p12
       try clear p16
       try clear p2
       try clear p22
       try clear p26
       try clear p29
       try clear p33
       try clear p45
       try clear p49
       try clear p52
       try clear p56
       try clear p6
       try clear q12
       try clear q16
       try clear q22
       try clear q26
       try clear q29
       try clear q33
       try clear q45
       try clear q49
       try clear q52
       try clear q56
       obtain ⟨x10_2, x11_2, rfl, rfl, HA, HK2, HO_9, HB⟩ := hrel
       cases gk with
       | zero => exact absurd HA.out (by simp [spec_l8Corners.l1])
       | succ k2 =>
        have H := HA.out
        clear HA
        simp only [spec_l8Corners.l1] at H
        by_cases c69 : x11_2 < ji2
        ·rw [if_pos c69] at H
         have c69b0 : decide (x11_2 < ji2) = true := decide_eq_true c69
         clear c69
         by_cases c70 : 0 ≤ x11_2
         ·rw [if_pos c70] at H
          have c70b0 : decide (0 ≤ x11_2) = true := decide_eq_true c70
          clear c70
          by_cases c71 : x11_2 < (t247.length : Int)
          ·rw [if_pos c71] at H
           have c71b0 : decide (x11_2 < (t247.length : Int)) = true := decide_eq_true c71
           clear c71
           by_cases c72 : (rd t247 x11_2) = x11_2
           ·rw [if_pos c72] at H
            have c72b0 : ((rd t247 x11_2) == x11_2) = true := beq_iff_eq.mpr c72
            have c72b1 : ((rd t247 x11_2) != x11_2) = false := bne_eq_false_iff_eq.mpr c72
            clear c72
            have H' := Aside0.mk H
            clear H
            obtain ⟨Ao73, co73, eo73⟩ := Kd.R_slice HO_9.out
            subst eo73
            have p250 : 0 ≤ (x11_2 : Int) := of_decide_eq_true (by first | (with_reducible assumption) | assumption)
            have q250 : x11_2 < (t247.length : Int) := of_decide_eq_true (by first | (with_reducible assumption) | assumption)
            obtain ⟨ad250, e250, hx250_0⟩ := Kd.at_int (Kd.R_reads' HO_9.out).2.2 x11_2 p250 q250
            cases e250
            replace p250 := eq_true p250
            replace q250 := eq_true q250
            go_wp2
            repeat (go_quiet (fail); try go_wp2)
            go_roundg k2
            case measure => have := HK1.out; have := HK2.out; omega
            case rel => exact ⟨(wrap64 (x10_2 + 1)), (wrap64 (x11_2 + 1)), (by first | rfl | (simp; done) | (simp [*]; done)), (by first | rfl | (simp; done) | (simp [*]; done)), H', ⟨by have := HK1.out; have := HK2.out; omega⟩, ⟨by (with_reducible repeat (first | apply Kd.R_alloc | apply Kd.R_drewN | apply Kd.R_drew)); exact HO_9.out⟩, ⟨by repeat (first | (with_reducible first | exact HB.out | apply below_alloc | apply pw_below_drewN | apply below_drew1) | exact HB.out)⟩⟩
           ·rw [if_neg c72] at H
            have c72b0 : ((rd t247 x11_2) == x11_2) = false := beq_eq_false_iff_ne.mpr c72
            have c72b1 : ((rd t247 x11_2) != x11_2) = true := bne_iff_ne.mpr c72
            have H' := Aside0.mk H
            clear H
            obtain ⟨Ao74, co74, eo74⟩ := Kd.R_slice HO_9.out
            subst eo74
            have p250 : 0 ≤ (x11_2 : Int) := of_decide_eq_true (by first | (with_reducible assumption) | assumption)
            have q250 : x11_2 < (t247.length : Int) := of_decide_eq_true (by first | (with_reducible assumption) | assumption)
            obtain ⟨ad250, e250, hx250_0⟩ := Kd.at_int (Kd.R_reads' HO_9.out).2.2 x11_2 p250 q250
            cases e250
            replace p250 := eq_true p250
            replace q250 := eq_true q250
            go_wp2
            repeat (go_quiet (fail); try go_wp2)
            go_roundg k2
            case measure => have := HK1.out; have := HK2.out; omega
            case rel => exact ⟨(x10_2), (wrap64 (x11_2 + 1)), (by first | rfl | (simp; done) | (simp [*]; done)), (by first | rfl | (simp; done) | (simp [*]; done)), H', ⟨by have := HK1.out; have := HK2.out; omega⟩, ⟨by (with_reducible repeat (first | apply Kd.R_alloc | apply Kd.R_drewN | apply Kd.R_drew)); exact HO_9.out⟩, ⟨by repeat (first | (with_reducible first | exact HB.out | apply below_alloc | apply pw_below_drewN | apply below_drew1) | exact HB.out)⟩⟩
          ·rw [if_neg c71] at H
           exact absurd H (by simp)
         ·rw [if_neg c70] at H
          exact absurd H (by simp)
        ·rw [if_neg c69] at H
         have c69b0 : decide (x11_2 < ji2) = false := decide_eq_false c69
         clear c69
         obtain rfl := Option.some.inj H
         go_wp2
         repeat (go_quiet (fail); try go_wp2)
         go_ret
         exact ⟨by first | rfl | (simp [errW_none, errW_some] <;> rfl) | (simp only [← hji2]; first | rfl | (simp [errW_none, errW_some] <;> rfl)) | (simp [*, errW_none, errW_some] <;> rfl), by repeat (first | (with_reducible first | exact HB.out | apply below_alloc | apply pw_below_drewN | apply below_drew1) | exact HB.out)⟩
  ·rw [if_neg c4] at H
   exact absurd H (by simp)
 ·rw [if_neg c3] at H
  exact absurd H (by simp)

/-! ### spec_WordNumber: function 22 -/
def spec_WordNumber.f (k : Nat) (a0 : ByteArray) : Option (Int) := (spec_WordValid.f k a0).bind fun t251 => (if t251 = true then ((spec_l8Corners.f k a0).bind fun t252 => (some (wrap64 ((wrap64 (t252 - (wrap64 ((a0.size : Int) / 2)))) + 1)))) else (some (-100)))
set_option maxHeartbeats 8000000 in
set_option maxRecDepth 100000 in
theorem spec_WordNumber.calls (k : Nat) (a0 : ByteArray) (r : Int) (w : World) (h : spec_WordNumber.f k a0 = some r) :
    Calls Try.prog 22 #[.string a0] w fun e w' => e = .returned (.int .i64 r) ∧ Below w.heap.size w w' := by
 have HB := Aside0.mk (Below.refl w.heap.size w)
 have H : ((spec_WordValid.f k a0).bind fun t251 => (if t251 = true then ((spec_l8Corners.f k a0).bind fun t252 => (some (wrap64 ((wrap64 (t252 - (wrap64 ((a0.size : Int) / 2)))) + 1)))) else (some (-100)))) = some r := h
 clear h
 replace H := Option.bind_eq_some_iff.mp H
 obtain ⟨t251, A20, H⟩ := H
 replace H : (if t251 = true then ((spec_l8Corners.f k a0).bind fun t252 => (some (wrap64 ((wrap64 (t252 - (wrap64 ((a0.size : Int) / 2)))) + 1)))) else (some (-100))) = some r := H
 have A2 := Aside0.mk A20
 clear A20
 by_cases c3 : t251 = true
 ·subst c3
  have H1 : ((spec_l8Corners.f k a0).bind fun t252 => (some (wrap64 ((wrap64 (t252 - (wrap64 ((a0.size : Int) / 2)))) + 1)))) = some r := by rw [if_pos rfl] at H; exact H
  clear H
  have H := H1
  clear H1
  replace H := Option.bind_eq_some_iff.mp H
  obtain ⟨t252, A40, H⟩ := H
  replace H : (some (wrap64 ((wrap64 (t252 - (wrap64 ((a0.size : Int) / 2)))) + 1))) = some r := H
  have A4 := Aside0.mk A40
  clear A40
  obtain rfl := Option.some.inj H
  go_enter Try.func22, Try.ntmps22
  go_wp2_with (first | ((with_reducible refine gate_callee (f := 34) rfl ?_); refine goesL_ (some 4) rfl rfl Try.func34 (by kernel_rfl) rfl #[.string a0] rfl (by (try simp only [List.map_toArray, List.map_cons, List.map_nil]); first | done | rfl | (simp only [List.length_drop, List.length_take]; rfl)) ?_; (with_reducible refine (spec_WordValid.calls k a0 true _ A2.out).mono ?_); rintro e w' ⟨rfl, ⟨nd, rfl⟩⟩; refine ⟨_, rfl, ?_⟩) | ((with_reducible refine gate_callee (f := 35) rfl ?_); refine goesL_ (some 7) rfl rfl Try.func35 (by kernel_rfl) rfl #[.string a0] rfl (by (try simp only [List.map_toArray, List.map_cons, List.map_nil]); first | done | rfl | (simp only [List.length_drop, List.length_take]; rfl)) ?_; (with_reducible refine (spec_l8Corners.calls k a0 t252 _ A4.out).mono ?_); rintro e w5 ⟨rfl, hb⟩; refine ⟨_, rfl, ?_⟩; have n0_ := Aside0.mk (below_step (by repeat (first | (with_reducible first | exact HB.out | apply below_alloc | apply pw_below_drewN | apply below_drew1) | exact HB.out)) hb); clear HB; have HB := n0_; clear n0_; (try clear hb); (try clear hb2); (try clear hk); (try clear hi)))
  go_ret
  exact ⟨by first | rfl | (simp [errW_none, errW_some] <;> rfl) | (simp [*, errW_none, errW_some] <;> rfl), by repeat (first | (with_reducible first | exact HB.out | apply below_alloc | apply pw_below_drewN | apply below_drew1) | exact HB.out)⟩
 ·replace c3 := Bool.eq_false_iff.mpr c3
  subst c3
  have H1 : (some (-100)) = some r := by rw [if_neg (show ¬ (false = true) by decide)] at H; exact H
  clear H
  have H := H1
  clear H1
  obtain rfl := Option.some.inj H
  go_enter Try.func22, Try.ntmps22
  go_wp2_with (first | ((with_reducible refine gate_callee (f := 34) rfl ?_); refine goesL_ (some 4) rfl rfl Try.func34 (by kernel_rfl) rfl #[.string a0] rfl (by (try simp only [List.map_toArray, List.map_cons, List.map_nil]); first | done | rfl | (simp only [List.length_drop, List.length_take]; rfl)) ?_; (with_reducible refine (spec_WordValid.calls k a0 false _ A2.out).mono ?_); rintro e w' ⟨rfl, ⟨nd, rfl⟩⟩; refine ⟨_, rfl, ?_⟩))
  go_ret
  exact ⟨by first | rfl | (simp [errW_none, errW_some] <;> rfl) | (simp [*, errW_none, errW_some] <;> rfl), by repeat (first | (with_reducible first | exact HB.out | apply below_alloc | apply pw_below_drewN | apply below_drew1) | exact HB.out)⟩

/-! ### impl_GluingValid: function 12 -/
mutual
def impl_GluingValid.j0 : Nat → List Int → Bool → Option (Bool)
  | 0, _, _ => none
  | k + 1, x0, x18 => if x18 = true then (some false) else (impl_GluingValid.l0 k x0 x0 (x0.length : Int) 0)
def impl_GluingValid.l0 : Nat → List Int → List Int → Int → Int → Option (Bool)
  | 0, _, _, _, _ => none
  | k + 1, x0, x19, x20, x21 => if x21 < x20 then (if 0 ≤ x21 then (if x21 < (x19.length : Int) then (if (rd x19 x21) < 0 then (some false) else (if (rd x19 x21) ≥ (x0.length : Int) then (some false) else (if (rd x19 x21) = x21 then (some false) else (if 0 ≤ (rd x19 x21) then (if (rd x19 x21) < (x0.length : Int) then (if (rd x0 (rd x19 x21)) = x21 then (impl_GluingValid.l0 k x0 x19 x20 (wrap64 (x21 + 1))) else (some false)) else (none)) else (none))))) else (none)) else (none)) else (some true)
end
def impl_GluingValid.f (k : Nat) (l0 : List Int) : Option (Bool) := if (l0.length : Int) < 2 then (impl_GluingValid.j0 k l0 true) else (if (l0.length : Int) > 10 then (impl_GluingValid.j0 k l0 true) else (impl_GluingValid.j0 k l0 (((l0.length : Int) % 2) != 0)))
set_option maxHeartbeats 8000000 in
set_option maxRecDepth 100000 in
theorem impl_GluingValid.calls (k : Nat) (A0 : Option Addr) (c0 : Nat) (l0 : List Int) (r : Bool) (w : World) (hr0 : Kd.C (Kd.int .i64) w A0 l0.length l0) (hc0 : l0.length ≤ c0) (h : impl_GluingValid.f k l0 = some r) :
    Calls Try.prog 12 #[.slice A0 l0.length c0] w fun e w' => e = .returned (.bool r) ∧ Drawn0 w w' := by
 have HR0 := Aside0.mk hr0
 have HC0 := Aside0.mk hc0
 clear hr0 hc0
 have H : (if (l0.length : Int) < 2 then (impl_GluingValid.j0 k l0 true) else (if (l0.length : Int) > 10 then (impl_GluingValid.j0 k l0 true) else (impl_GluingValid.j0 k l0 (((l0.length : Int) % 2) != 0)))) = some r := h
 clear h
 have HC2 := Aside0.mk H
 clear H
 go_enter Try.func12, Try.ntmps12
 go_upto_region 1 with (fail)
 go_cut [18] (fun v18 wc => ∃ (kq : Nat) (x18_1 : Bool), v18 = .bool x18_1 ∧ Aside0 (impl_GluingValid.j0 kq l0 x18_1 = some r) ∧ Aside0 (kq ≤ k) ∧ Drawn0 w wc)
 case first =>
  have H := HC2.out
  clear HC2
  by_cases c3 : (l0.length : Int) < 2
  ·rw [if_pos c3] at H
   have c3b0 : decide ((l0.length : Int) < 2) = true := decide_eq_true c3
   have c3b1 : decide (l0.length < 2) = true := decide_eq_true (by omega)
   clear c3
   (first | rw [c3b0] | (simp only [i64_w, i32_w]; rw [c3b0]) | skip)
   have H' := Aside0.mk H
   clear H
   go_wp2
   go_meet
   case rel => exact ⟨_, (true), (by first | rfl | (simp; done) | (simp [*]; done)), H', ⟨by first | omega | exact Nat.le_refl _⟩, by repeat (first | exact Drawn0.refl _ | apply Drawn0.step)⟩
  ·rw [if_neg c3] at H
   have c3b0 : decide ((l0.length : Int) < 2) = false := decide_eq_false c3
   have c3b1 : decide (l0.length < 2) = false := decide_eq_false (by omega)
   clear c3
   (first | rw [c3b0] | (simp only [i64_w, i32_w]; rw [c3b0]) | skip)
   by_cases c4 : (l0.length : Int) > 10
   ·rw [if_pos c4] at H
    have c4b0 : decide (10 < (l0.length : Int)) = true := decide_eq_true c4
    have c4b1 : decide (10 < l0.length) = true := decide_eq_true (by omega)
    clear c4
    have H' := Aside0.mk H
    clear H
    go_wp2
    go_meet
    case rel => exact ⟨_, (true), (by first | rfl | (simp; done) | (simp [*]; done)), H', ⟨by first | omega | exact Nat.le_refl _⟩, by repeat (first | exact Drawn0.refl _ | apply Drawn0.step)⟩
   ·rw [if_neg c4] at H
    have c4b0 : decide (10 < (l0.length : Int)) = false := decide_eq_false c4
    have c4b1 : decide (10 < l0.length) = false := decide_eq_false (by omega)
    clear c4
    have H' := Aside0.mk H
    clear H
    go_wp2
    go_meet
    case rel => exact ⟨_, ((((l0.length : Int) % 2) != 0)), (by first | rfl | (simp; done) | (simp [*]; done)), H', ⟨by first | omega | exact Nat.le_refl _⟩, by repeat (first | exact Drawn0.refl _ | apply Drawn0.step)⟩
 case rest =>
  clear HC2
  try clear c1
  try clear p2
  try clear c3
  try clear c3b0
  try clear c3b1
  try clear c4
  try clear c4b0
  try clear c4b1
  obtain ⟨kq, x18_1, rfl, HA, HJ1, ⟨mc1, rfl⟩⟩ := hcut
  cases kq with
  | zero => exact absurd HA.out (by simp [impl_GluingValid.j0])
  | succ kj1 =>
   have H := HA.out
   clear HA
   simp only [impl_GluingValid.j0] at H
   by_cases c5 : x18_1 = true
   ·subst c5
    have H1 : (some false) = some r := by rw [if_pos rfl] at H; exact H
    clear H
    have H := H1
    clear H1
    obtain rfl := Option.some.inj H
    go_wp2
    go_ret
    exact ⟨by first | rfl | (simp; done) | (simp [*]; done), by repeat (first | exact Drawn0.refl _ | apply Drawn0.step)⟩
   ·replace c5 := Bool.eq_false_iff.mpr c5
    subst c5
    have H1 : (impl_GluingValid.l0 kj1 l0 l0 (l0.length : Int) 0) = some r := by rw [if_neg (show ¬ (false = true) by decide)] at H; exact H
    clear H
    have H := H1
    clear H1
    have H' := Aside0.mk H
    clear H
    go_wp2
    go_loopg [21] kj1 (fun kq v21 w' => ∃ (x21_2 : Int), v21 = .int .i64 x21_2 ∧ Aside0 (impl_GluingValid.l0 kq l0 l0 (l0.length : Int) x21_2 = some r) ∧ Aside0 (kq ≤ kj1) ∧ Drawn0 w w')
    case atStart => exact ⟨(0), (by first | rfl | (simp; done) | (simp [*]; done)), H', ⟨Nat.le_refl _⟩, by repeat (first | exact Drawn0.refl _ | apply Drawn0.step)⟩
    case round =>
     clear H'
     try clear c1
     try clear p2
     try clear c3
     try clear c3b0
     try clear c3b1
     try clear c4
     try clear c4b0
     try clear c4b1
     try clear c5
     try clear p2
     obtain ⟨x21_2, rfl, HA, HK2, ⟨m2, rfl⟩⟩ := hrel
     cases gk with
     | zero => exact absurd HA.out (by simp [impl_GluingValid.l0])
     | succ k2 =>
      have H := HA.out
      clear HA
      simp only [impl_GluingValid.l0] at H
      by_cases c6 : x21_2 < (l0.length : Int)
      ·rw [if_pos c6] at H
       have c6b0 : decide (x21_2 < (l0.length : Int)) = true := decide_eq_true c6
       clear c6
       by_cases c7 : 0 ≤ x21_2
       ·rw [if_pos c7] at H
        have c7b0 : decide (0 ≤ x21_2) = true := decide_eq_true c7
        clear c7
        by_cases c8 : x21_2 < (l0.length : Int)
        ·rw [if_pos c8] at H
         have c8b0 : decide (x21_2 < (l0.length : Int)) = true := decide_eq_true c8
         clear c8
         by_cases c9 : (rd l0 x21_2) < 0
         ·rw [if_pos c9] at H
          have c9b0 : decide ((rd l0 x21_2) < 0) = true := decide_eq_true c9
          clear c9
          obtain rfl := Option.some.inj H
          have p253 : 0 ≤ (x21_2 : Int) := of_decide_eq_true (by first | (with_reducible assumption) | assumption)
          have q253 : x21_2 < (l0.length : Int) := of_decide_eq_true (by first | (with_reducible assumption) | assumption)
          obtain ⟨ad253, e253, hx253_0⟩ := Kd.at_int HR0.out x21_2 p253 q253
          cases e253
          replace p253 := eq_true p253
          replace q253 := eq_true q253
          go_wp2
          go_ret
          exact ⟨by first | rfl | (simp; done) | (simp [*]; done), by repeat (first | exact Drawn0.refl _ | apply Drawn0.step)⟩
         ·rw [if_neg c9] at H
          have c9b0 : decide ((rd l0 x21_2) < 0) = false := decide_eq_false c9
          clear c9
          by_cases c10 : (rd l0 x21_2) ≥ (l0.length : Int)
          ·rw [if_pos c10] at H
           have c10b0 : decide ((l0.length : Int) ≤ (rd l0 x21_2)) = true := decide_eq_true c10
           clear c10
           obtain rfl := Option.some.inj H
           have p253 : 0 ≤ (x21_2 : Int) := of_decide_eq_true (by first | (with_reducible assumption) | assumption)
           have q253 : x21_2 < (l0.length : Int) := of_decide_eq_true (by first | (with_reducible assumption) | assumption)
           obtain ⟨ad253, e253, hx253_0⟩ := Kd.at_int HR0.out x21_2 p253 q253
           cases e253
           replace p253 := eq_true p253
           replace q253 := eq_true q253
           go_wp2
           go_ret
           exact ⟨by first | rfl | (simp; done) | (simp [*]; done), by repeat (first | exact Drawn0.refl _ | apply Drawn0.step)⟩
          ·rw [if_neg c10] at H
           have c10b0 : decide ((l0.length : Int) ≤ (rd l0 x21_2)) = false := decide_eq_false c10
           clear c10
           by_cases c11 : (rd l0 x21_2) = x21_2
           ·rw [if_pos c11] at H
            have c11b0 : ((rd l0 x21_2) == x21_2) = true := beq_iff_eq.mpr c11
            have c11b1 : ((rd l0 x21_2) != x21_2) = false := bne_eq_false_iff_eq.mpr c11
            clear c11
            obtain rfl := Option.some.inj H
            have p253 : 0 ≤ (x21_2 : Int) := of_decide_eq_true (by first | (with_reducible assumption) | assumption)
            have q253 : x21_2 < (l0.length : Int) := of_decide_eq_true (by first | (with_reducible assumption) | assumption)
            obtain ⟨ad253, e253, hx253_0⟩ := Kd.at_int HR0.out x21_2 p253 q253
            cases e253
            replace p253 := eq_true p253
            replace q253 := eq_true q253
            go_wp2
            go_ret
            exact ⟨by first | rfl | (simp; done) | (simp [*]; done), by repeat (first | exact Drawn0.refl _ | apply Drawn0.step)⟩
           ·rw [if_neg c11] at H
            have c11b0 : ((rd l0 x21_2) == x21_2) = false := beq_eq_false_iff_ne.mpr c11
            have c11b1 : ((rd l0 x21_2) != x21_2) = true := bne_iff_ne.mpr c11
            by_cases c12 : 0 ≤ (rd l0 x21_2)
            ·rw [if_pos c12] at H
             have c12b0 : decide (0 ≤ (rd l0 x21_2)) = true := decide_eq_true c12
             clear c12
             by_cases c13 : (rd l0 x21_2) < (l0.length : Int)
             ·rw [if_pos c13] at H
              have c13b0 : decide ((rd l0 x21_2) < (l0.length : Int)) = true := decide_eq_true c13
              clear c13
              by_cases c14 : (rd l0 (rd l0 x21_2)) = x21_2
              ·rw [if_pos c14] at H
               have c14b0 : ((rd l0 (rd l0 x21_2)) == x21_2) = true := beq_iff_eq.mpr c14
               have c14b1 : ((rd l0 (rd l0 x21_2)) != x21_2) = false := bne_eq_false_iff_eq.mpr c14
               clear c14
               have H' := Aside0.mk H
               clear H
               have p253 : 0 ≤ (x21_2 : Int) := of_decide_eq_true (by first | (with_reducible assumption) | assumption)
               have q253 : x21_2 < (l0.length : Int) := of_decide_eq_true (by first | (with_reducible assumption) | assumption)
               obtain ⟨ad253, e253, hx253_0⟩ := Kd.at_int HR0.out x21_2 p253 q253
               cases e253
               replace p253 := eq_true p253
               replace q253 := eq_true q253
               have p254 : 0 ≤ ((rd l0 x21_2) : Int) := of_decide_eq_true (by first | (with_reducible assumption) | assumption)
               have q254 : (rd l0 x21_2) < (l0.length : Int) := of_decide_eq_true (by first | (with_reducible assumption) | assumption)
               obtain ⟨ad254, e254, hx254_0⟩ := Kd.at_int HR0.out (rd l0 x21_2) p254 q254
               obtain rfl : ad253 = ad254 := (by injection e254)
               replace p254 := eq_true p254
               replace q254 := eq_true q254
               go_wp2
               go_roundg k2
               case measure => have := HJ1.out; have := HK2.out; omega
               case rel => exact ⟨(wrap64 (x21_2 + 1)), (by first | rfl | (simp; done) | (simp [*]; done)), H', ⟨by have := HJ1.out; have := HK2.out; omega⟩, by repeat (first | exact Drawn0.refl _ | apply Drawn0.step)⟩
              ·rw [if_neg c14] at H
               have c14b0 : ((rd l0 (rd l0 x21_2)) == x21_2) = false := beq_eq_false_iff_ne.mpr c14
               have c14b1 : ((rd l0 (rd l0 x21_2)) != x21_2) = true := bne_iff_ne.mpr c14
               obtain rfl := Option.some.inj H
               have p253 : 0 ≤ (x21_2 : Int) := of_decide_eq_true (by first | (with_reducible assumption) | assumption)
               have q253 : x21_2 < (l0.length : Int) := of_decide_eq_true (by first | (with_reducible assumption) | assumption)
               obtain ⟨ad253, e253, hx253_0⟩ := Kd.at_int HR0.out x21_2 p253 q253
               cases e253
               replace p253 := eq_true p253
               replace q253 := eq_true q253
               have p254 : 0 ≤ ((rd l0 x21_2) : Int) := of_decide_eq_true (by first | (with_reducible assumption) | assumption)
               have q254 : (rd l0 x21_2) < (l0.length : Int) := of_decide_eq_true (by first | (with_reducible assumption) | assumption)
               obtain ⟨ad254, e254, hx254_0⟩ := Kd.at_int HR0.out (rd l0 x21_2) p254 q254
               obtain rfl : ad253 = ad254 := (by injection e254)
               replace p254 := eq_true p254
               replace q254 := eq_true q254
               go_wp2
               go_ret
               exact ⟨by first | rfl | (simp; done) | (simp [*]; done), by repeat (first | exact Drawn0.refl _ | apply Drawn0.step)⟩
             ·rw [if_neg c13] at H
              exact absurd H (by simp)
            ·rw [if_neg c12] at H
             exact absurd H (by simp)
        ·rw [if_neg c8] at H
         exact absurd H (by simp)
       ·rw [if_neg c7] at H
        exact absurd H (by simp)
      ·rw [if_neg c6] at H
       have c6b0 : decide (x21_2 < (l0.length : Int)) = false := decide_eq_false c6
       clear c6
       obtain rfl := Option.some.inj H
       go_wp2
       go_ret
       exact ⟨by first | rfl | (simp; done) | (simp [*]; done), by repeat (first | exact Drawn0.refl _ | apply Drawn0.step)⟩

end Go.Proofs.Ytpfnchjbbagmdaa.PFnNumber
