-- Made by a program of this session (wip/tools) out of the loaded program; not trusted: Lean checks it.
import Derived.Test.YtjebcgbmlbemcaaGreatDoorPFnExecuteTuttex0
import Derived.Test.YtjebcgbmlbemcaaGreatDoorPFnExecuteTuttex5
-- packed
namespace Go.Proofs.YtjebcgbmlbemcaaGreatDoor.PFnExecuteTutte
open Go.RowKit Go.Proofs.YtjebcgbmlbemcaaGreatDoorW.PrintWords Go.Proofs.YtjebcgbmlbemcaaGreatDoorW.PrintLast Go.Proofs.YtjebcgbmlbemcaaGreatDoorW.PrintMore
attribute [local go_sem] max2_int min2_int max_two min_two max_three min_three max_four min_four   -- for this text's walks alone
set_option linter.unusedVariables false
set_option linter.unusedSimpArgs false

/-! ### impl_TutteQuad: function 7 -/
mutual
def impl_TutteQuad.j0 : Nat → Bool → List Int → List Int → Option (List Int × List Int × Bool)
  | 0, _, _, _ => none
  | k + 1, x16, x254000, x254001 => if x16 = true then (some (([] : List Int), ([] : List Int), false)) else ((impl_mul.f k x254001 x254000).bind fun t256 => ((impl_back.f k t256).bind fun t259 => (if 0 ≤ (wrap64 (2 * (x254000.length : Int))) then (if (wrap64 (2 * (x254000.length : Int)) : Int).toNat ≤ 35184372088832 then (impl_TutteQuad.l0 k t259 (x254000.length : Int) 0 x254000 x254001 (List.replicate (wrap64 (2 * (x254000.length : Int)) : Int).toNat 0) (List.replicate (wrap64 (2 * (x254000.length : Int)) : Int).toNat 0)) else (none)) else (none))))
def impl_TutteQuad.l0 : Nat → List Int → Int → Int → List Int → List Int → List Int → List Int → Option (List Int × List Int × Bool)
  | 0, _, _, _, _, _, _, _ => none
  | k + 1, x5, x34, x35, x254000, x254001, x269000, x269001 => if x35 < x34 then (if 0 ≤ (wrap64 (2 * x35)) then (if (wrap64 (2 * x35)) < (x269001.length : Int) then (if 0 ≤ (wrap64 ((wrap64 (2 * x35)) + 1)) then (if (wrap64 ((wrap64 (2 * x35)) + 1)) < (x269001.length : Int) then (if 0 ≤ x35 then (if x35 < (x254000.length : Int) then (if (wrap64 (2 * x35)) < (x269000.length : Int) then (if x35 < (x5.length : Int) then (if (wrap64 ((wrap64 (2 * x35)) + 1)) < (x269000.length : Int) then (impl_TutteQuad.l0 k x5 x34 (wrap64 (x35 + 1)) x254000 x254001 ((x269000.set ((wrap64 (2 * x35)) : Int).toNat (wrap64 (2 * (rd x254000 x35)))).set ((wrap64 ((wrap64 (2 * x35)) + 1)) : Int).toNat (wrap64 ((wrap64 (2 * (rd x5 x35))) + 1))) ((x269001.set ((wrap64 (2 * x35)) : Int).toNat (wrap64 ((wrap64 (2 * x35)) + 1))).set ((wrap64 ((wrap64 (2 * x35)) + 1)) : Int).toNat (wrap64 (2 * x35)))) else (none)) else (none)) else (none)) else (none)) else (none)) else (none)) else (none)) else (none)) else (none)) else (some (x269000, x269001, true))
end
def impl_TutteQuad.f (k : Nat) (l0_0 : List Int) (l0_1 : List Int) : Option (List Int × List Int × Bool) := (impl_MapValid.f k l0_0 l0_1).bind fun t255 => (if t255 = true then (impl_TutteQuad.j0 k (decide ((l0_0.length : Int) > 6)) l0_0 l0_1) else (impl_TutteQuad.j0 k true l0_0 l0_1))
def impl_TutteQuad.T5 : Bool × List (List Nat × List Nat) := (true, [([], []), ([0], [0]), ([1, 1], [1]), ([], []), ([3], [3]), ([4, 4], [4]), ([2, 5], [2, 5]), ([], []), ([7, 6, 0, 1, 2, 3, 4, 5, 6, 7], [6, 7])])
def impl_TutteQuad.B5 : List Nat := [0, 1, 3, 0, 8, 24, 63, 0, 255]
theorem impl_TutteQuad.tab5 : rtab .any (opsOf Tryz.f7 5) = impl_TutteQuad.T5 := by kernel_rfl
theorem impl_TutteQuad.bits5 : waitsOk impl_TutteQuad.T5.2 impl_TutteQuad.B5 = true := by kernel_rfl
def impl_TutteQuad.T9 : Bool × List (List Nat × List Nat) := (true, [([], []), ([0], [0]), ([], []), ([2], [2]), ([], []), ([4], [4]), ([], []), ([6], [6]), ([7], [7]), ([], []), ([9], [9]), ([10], [10]), ([], []), ([12], [12]), ([1, 3, 0, 1, 2, 3, 9, 10, 11], [1, 3]), ([14, 11, 0, 1, 2, 3, 9, 10, 11], [11, 14]), ([5, 8, 0, 1, 2, 3, 4, 5, 6, 7, 8, 9, 10, 11, 12, 13, 14, 15], [5, 8]), ([16, 13, 15, 0, 1, 2, 3, 4, 5, 6, 7, 8, 9, 10, 11, 12, 13, 14, 15], [13, 16])])
def impl_TutteQuad.B9 : List Nat := [0, 1, 0, 4, 0, 16, 0, 64, 192, 0, 512, 1536, 0, 4096, 3599, 19983, 65535, 131071]
theorem impl_TutteQuad.tab9 : rtab .any (opsOf Tryz.f7 9) = impl_TutteQuad.T9 := by kernel_rfl
theorem impl_TutteQuad.bits9 : waitsOk impl_TutteQuad.T9.2 impl_TutteQuad.B9 = true := by kernel_rfl
def impl_TutteQuad.T10 : Bool × List (List Nat × List Nat) := (true, [([], []), ([0], [0]), ([], []), ([2], [2]), ([], []), ([4], [4]), ([], []), ([5, 6], [5, 6]), ([7], [7]), ([8], [8]), ([1, 3, 0, 1, 2, 3, 4, 5, 6, 7, 8, 9], [1, 3]), ([10, 9, 0, 1, 2, 3, 4, 5, 6, 7, 8, 9], [9, 10])])
def impl_TutteQuad.B10 : List Nat := [0, 1, 0, 4, 0, 16, 0, 112, 240, 496, 1023, 2047]
theorem impl_TutteQuad.tab10 : rtab .any (opsOf Tryz.f7 10) = impl_TutteQuad.T10 := by kernel_rfl
theorem impl_TutteQuad.bits10 : waitsOk impl_TutteQuad.T10.2 impl_TutteQuad.B10 = true := by kernel_rfl
def impl_TutteQuad.T11 : Bool × List (List Nat × List Nat) := (true, [([], []), ([0], [0]), ([], []), ([2], [2]), ([3], [3]), ([], []), ([], []), ([5, 6], [5, 6]), ([7], [7]), ([8], [8]), ([9], [9]), ([1, 4, 0, 1, 2, 3, 4, 5, 6, 7, 8, 9, 10], [1, 4]), ([11, 10, 0, 1, 2, 3, 4, 5, 6, 7, 8, 9, 10], [10, 11])])
def impl_TutteQuad.B11 : List Nat := [0, 1, 0, 4, 12, 0, 0, 96, 224, 480, 992, 2047, 4095]
theorem impl_TutteQuad.tab11 : rtab .any (opsOf Tryz.f7 11) = impl_TutteQuad.T11 := by kernel_rfl
theorem impl_TutteQuad.bits11 : waitsOk impl_TutteQuad.T11.2 impl_TutteQuad.B11 = true := by kernel_rfl
set_option maxHeartbeats 8000000 in
set_option maxRecDepth 100000 in
theorem impl_TutteQuad.calls (k : Nat) (A0_0 : Option Addr) (c0_0 : Nat) (l0_0 : List Int) (A0_1 : Option Addr) (c0_1 : Nat) (l0_1 : List Int) (r1 : List Int) (r2 : List Int) (r3 : Bool) (w : World) (hr0_0 : Kd.C (Kd.int .i64) w A0_0 l0_0.length l0_0) (hc0_0 : l0_0.length ≤ c0_0) (hr0_1 : Kd.C (Kd.int .i64) w A0_1 l0_1.length l0_1) (hc0_1 : l0_1.length ≤ c0_1) (h : impl_TutteQuad.f k l0_0 l0_1 = some (r1, r2, r3)) :
    Calls Tryz.prog 7 #[.agg #[.slice A0_0 l0_0.length c0_0, .slice A0_1 l0_1.length c0_1]] w fun e w' => ∃ v0_ v1_ : Value, e = .returned (.tuple #[.agg #[v0_, v1_], .bool r3]) ∧ Kd.R (Kd.int .i64) 3 w' w.heap.size (fun k_ => some k_ ≠ (v1_ : Value).ownBlock) v0_ r1 ∧ Kd.R (Kd.int .i64) 3 w' w.heap.size (fun k_ => some k_ ≠ (v0_ : Value).ownBlock) v1_ r2 ∧ Below w.heap.size w w' := by
 have hu25 := Tryz.underlying25; have HR0_0 := A0_ hr0_0; have HC0_0 := A0_ hc0_0; clear hr0_0 hc0_0; have HR0_1 := A0_ hr0_1; have HC0_1 := A0_ hc0_1; clear hr0_1 hc0_1
 have HB := A0_ (Below.refl w.heap.size w)
 have H : ((impl_MapValid.f k l0_0 l0_1).bind fun t255 => (if t255 = true then (impl_TutteQuad.j0 k (decide ((l0_0.length : Int) > 6)) l0_0 l0_1) else (impl_TutteQuad.j0 k true l0_0 l0_1))) = some (r1, r2, r3) := h
 clear h; have HC2 := A0_ H; clear H
 go_enter Tryz.func7, Tryz.ntmps7
 go_upto_region 1 with (first | ((with_reducible refine gD (N := 1) rfl ?_); refine zX (N := 1) (cs := #[.slice A0_0 l0_0.length c0_0, .slice A0_1 l0_1.length c0_1]) (t := 25) ?_; intro gb253 hg w3 hbox hb; have BK253 := A0_ (hbox); have GW253 := zG hg HB; have GE253 := zG hg HB; replace HB := zB HB hb; clear hb hbox hg) | ((with_reducible refine gD (N := 2) rfl ?_); refine zX (N := 2) (cs := #[.slice none 0 0, .slice none 0 0]) (t := 25) ?_; intro gb254 hg w4 hbox hb; have BK254 := A0_ (hbox); have GW254 := zG hg HB; have GE254 := zG hg HB; replace HB := zB HB hb; have NB253_254 := zL hg BK253; have NB254_253 := zM hg BK253; replace BK253 := zK BK253 hb; clear hb hbox hg))
 (try simp only [Act.put, List.setIfInBounds_toArray, List.set_cons_zero, List.set_cons_succ])
 go_cut [16] (fun v16 wc => ∃ (kq : Nat) (x16_1 : Bool), v16 = .bool x16_1 ∧ Aside0 (impl_TutteQuad.j0 kq x16_1 l0_0 l0_1 = some (r1, r2, r3)) ∧ Aside0 (kq ≤ k) ∧ Aside0 (wc.heap[gb253]? = some (.cells #[(.slice A0_0 l0_0.length c0_0), (.slice A0_1 l0_1.length c0_1)] 25 (0, 0))) ∧ Aside0 (wc.heap[gb254]? = some (.cells #[(.slice none 0 0), (.slice none 0 0)] 25 (0, 0))) ∧ Aside0 (Below w.heap.size w wc))
 case first =>
  have H := HC2.out; clear HC2; obtain ⟨t255, A5, H⟩ := zbind H
  by_cases c6 : t255 = true
  ·subst c6
   have H1 : (impl_TutteQuad.j0 k (decide ((l0_0.length : Int) > 6)) l0_0 l0_1) = some (r1, r2, r3) := by rw [if_pos rfl] at H; exact H
   clear H; have H := H1; clear H1; have H' := A0_ H; clear H; have hnb7 := NB253_254.out; have hnc7 := NB254_253.out; have hcz8_0 := zc0 BK253; have hcz8_1 := zc1 BK253; have hfz8_0 := kF BK253.out 0; have hfz8_1 := kF BK253.out 1
   go_wp2_with (first | ((with_reducible refine gC (f := 24) rfl ?_); refine zJ (some 9) Tryz.func24 #[.agg #[.slice A0_0 l0_0.length c0_0, .slice A0_1 l0_1.length c0_1]] ?_; (with_reducible refine (impl_MapValid.calls k (fun k_ => k_ < w.heap.size) _ _ l0_0 (fun k_ => k_ < w.heap.size) _ _ l0_1 true _ ?side1 ?side2 A5.out).mono ?_); (case side1 => exact Kd.V_mk HC0_0.out (Kd.F_below (Kd.C_F (Kd.heap_int .i64) HR0_0.out) (zB_ HB))); (case side2 => exact Kd.V_mk HC0_1.out (Kd.F_below (Kd.C_F (Kd.heap_int .i64) HR0_1.out) (zB_ HB))); rintro e w9 ⟨rfl, hb⟩; refine ⟨_, rfl, ?_⟩; replace BK253 := zK BK253 hb; replace BK254 := zK BK254 hb; replace HB := zB HB hb; (try clear hb); have hcz10_0 := zc0 BK253; have hcz10_1 := zc1 BK253; have hfz10_0 := kF BK253.out 0; have hfz10_1 := kF BK253.out 1))
   go_meet
   case rel => exact ⟨_, (decide ((l0_0.length : Int) > 6)), zt, H', zo, ⟨zK_ BK253⟩, ⟨zK_ BK254⟩, ⟨zB_ HB⟩⟩
  replace c6 := Bool.eq_false_iff.mpr c6; subst c6
  have H1 : (impl_TutteQuad.j0 k true l0_0 l0_1) = some (r1, r2, r3) := by rw [if_neg (show ¬ (false = true) by decide)] at H; exact H
  clear H; have H := H1; clear H1; have H' := A0_ H; clear H; have hnb11 := NB253_254.out; have hnc11 := NB254_253.out; have hcz12_0 := zc0 BK253; have hcz12_1 := zc1 BK253; have hfz12_0 := kF BK253.out 0; have hfz12_1 := kF BK253.out 1
  go_wp2_with (first | ((with_reducible refine gC (f := 24) rfl ?_); refine zJ (some 9) Tryz.func24 #[.agg #[.slice A0_0 l0_0.length c0_0, .slice A0_1 l0_1.length c0_1]] ?_; (with_reducible refine (impl_MapValid.calls k (fun k_ => k_ < w.heap.size) _ _ l0_0 (fun k_ => k_ < w.heap.size) _ _ l0_1 false _ ?side1 ?side2 A5.out).mono ?_); (case side1 => exact Kd.V_mk HC0_0.out (Kd.F_below (Kd.C_F (Kd.heap_int .i64) HR0_0.out) (zB_ HB))); (case side2 => exact Kd.V_mk HC0_1.out (Kd.F_below (Kd.C_F (Kd.heap_int .i64) HR0_1.out) (zB_ HB))); rintro e w13 ⟨rfl, hb⟩; refine ⟨_, rfl, ?_⟩; replace BK253 := zK BK253 hb; replace BK254 := zK BK254 hb; replace HB := zB HB hb; (try clear hb)))
  go_meet
  case rel => exact ⟨_, (true), zt, H', zo, ⟨zK_ BK253⟩, ⟨zK_ BK254⟩, ⟨zB_ HB⟩⟩
 case rest =>
  clear HC2; (try clear c1); (try clear c2); (try clear p2); (try clear c6); (try clear c7); (try clear c11); (try clear hcz10_0); (try clear hcz10_1); (try clear hcz12_0); (try clear hcz12_1); (try clear hcz8_0); (try clear hcz8_1); (try clear hfz10_0); (try clear hfz10_1); (try clear hfz12_0); (try clear hfz12_1); (try clear hfz8_0); (try clear hfz8_1); obtain ⟨kq, x16_1, rfl, HA, HJ1, BK253, BK254, HB⟩ := hcut
  cases kq with
  | zero => exact absurd HA.out (by simp [impl_TutteQuad.j0])
  | succ kj1 =>
   have H := HA.out; clear HA; simp only [impl_TutteQuad.j0] at H
   by_cases c14 : x16_1 = true
   ·subst c14
    have H1 : (some (([] : List Int), ([] : List Int), false)) = some (r1, r2, r3) := by rw [if_pos rfl] at H; exact H
    clear H; have H := H1; clear H1; simp only [Option.some.injEq, Prod.mk.injEq] at H; obtain ⟨rfl, rfl, rfl⟩ := H; have hnb15 := NB254_253.out; have hnc15 := NB253_254.out; have hcz16_0 := zc0 BK254; have hcz16_1 := zc1 BK254; have hfz16_0 := kF BK254.out 0; have hfz16_1 := kF BK254.out 1
    go_wp2
    refine bodyPost_ret (results_ct rfl _ _ gb254 25 #[.slice none 0 0, .slice none 0 0] (0, 0) _ rfl (by (with_reducible repeat (first | refine kN ?_ _ | refine kD ?_ | refine kA ?_ _)); refine blk_put (cs := #[.slice none 0 0, .slice none 0 0]) ?_ 1 _ rfl; (with_reducible repeat (first | refine kN ?_ _ | refine kD ?_ | refine kA ?_ _)); refine blk_put (cs := #[.slice none 0 0, .slice none 0 0]) ?_ 0 _ rfl; (with_reducible repeat (first | refine kN ?_ _ | refine kD ?_ | refine kA ?_ _)); exact BK254.out) Tryz.underlying25 rfl (by kernel_rfl)) rfl ?_
    exact ⟨_, _, by first | rfl | (simp [*] <;> rfl), by first | exact Kd.R_nil _ _ _ _ _ | exact Kd.N_nil _ _ _ _ _ | exact Kd.V_nil _ _ _ _ _ | exact Kd.Q_nil _ _ _ _ _ | exact Kd.S_nil _ _ _ _ _, by first | exact Kd.R_nil _ _ _ _ _ | exact Kd.N_nil _ _ _ _ _ | exact Kd.V_nil _ _ _ _ _ | exact Kd.Q_nil _ _ _ _ _ | exact Kd.S_nil _ _ _ _ _, zB_ HB⟩
   replace c14 := Bool.eq_false_iff.mpr c14; subst c14
   have H1 : ((impl_mul.f kj1 l0_1 l0_0).bind fun t256 => ((impl_back.f kj1 t256).bind fun t259 => (if 0 ≤ (wrap64 (2 * (l0_0.length : Int))) then (if (wrap64 (2 * (l0_0.length : Int)) : Int).toNat ≤ 35184372088832 then (impl_TutteQuad.l0 kj1 t259 (l0_0.length : Int) 0 l0_0 l0_1 (List.replicate (wrap64 (2 * (l0_0.length : Int)) : Int).toNat 0) (List.replicate (wrap64 (2 * (l0_0.length : Int)) : Int).toNat 0)) else (none)) else (none)))) = some (r1, r2, r3) := by rw [if_neg (show ¬ (false = true) by decide)] at H; exact H
   clear H; have H := H1; clear H1; obtain ⟨t256, A17, H⟩ := zbind H; obtain ⟨t259, A18, H⟩ := zbind H
   obtain ⟨ji19, hji19⟩ : ∃ j_ : Int, (wrap64 (2 * (l0_0.length : Int))) = j_ := ⟨_, rfl⟩
   replace H : (if 0 ≤ (ji19) then (if (ji19 : Int).toNat ≤ 35184372088832 then (impl_TutteQuad.l0 kj1 t259 (l0_0.length : Int) 0 l0_0 l0_1 (List.replicate (ji19 : Int).toNat 0) (List.replicate (ji19 : Int).toNat 0)) else (none)) else (none)) = some (r1, r2, r3) := by first | (rw [hji19] at H; exact H) | (simp only [hji19] at H ⊢; exact H)
   (try rw [hji19] at A17)
   (try rw [hji19] at A18)
   have hji19w : (IntKind.i64.wrap (2 * (l0_0.length : Int))) = ji19 := (i64_w _).trans hji19
   by_cases c20 : 0 ≤ (ji19)
   ·rw [if_pos c20] at H
    have c20b0 := eq_true c20; have c20b1 := dT c20; clear c20
    by_cases c21 : (ji19 : Int).toNat ≤ 35184372088832
    ·rw [if_pos c21] at H
     have c21b0 := eq_true c21; have c21b1 := dT c21; clear c21
     obtain ⟨y262, hy262⟩ : ∃ y_ : List Int, y_ = (List.replicate (ji19 : Int).toNat 0) := ⟨_, rfl⟩
     replace H : (impl_TutteQuad.l0 kj1 t259 (l0_0.length : Int) 0 l0_0 l0_1 y262 (List.replicate (ji19 : Int).toNat 0)) = some (r1, r2, r3) := zH hy262 H
     have Ny262 := A0_ hy262; clear hy262
     obtain ⟨y265, hy265⟩ : ∃ y_ : List Int, y_ = (List.replicate (ji19 : Int).toNat 0) := ⟨_, rfl⟩
     replace H : (impl_TutteQuad.l0 kj1 t259 (l0_0.length : Int) 0 l0_0 l0_1 y262 y265) = some (r1, r2, r3) := zH hy265 H
     have Ny265 := A0_ hy265; clear hy265; have H' := A0_ H; clear H; have hnb22 := NB253_254.out; have hnc22 := NB254_253.out; have hcz23_0 := zc0 BK253; have hcz23_1 := zc1 BK253; have hfz23_0 := kF BK253.out 0; have hfz23_1 := kF BK253.out 1
     try go_wp2_with (first | ((with_reducible refine gC (f := 26) rfl ?_); refine zJ (some 25) Tryz.func26 #[.slice A0_1 l0_1.length c0_1, .slice A0_0 l0_0.length c0_0] ?_; (with_reducible refine (impl_mul.calls kj1 _ _ l0_1 _ _ l0_0 t256 _ ?side1 ?side2 ?side3 ?side4 A17.out).mono ?_); (case side1 => exact zC HR0_1 HB); (case side2 => exact HC0_1.out); (case side3 => exact zC HR0_0 HB); (case side4 => exact HC0_0.out); rintro e w24 ⟨v257, rfl, ho0, hb⟩; refine ⟨_, rfl, ?_⟩; have HO258 := A0_ (rL ho0 (bZ (zB_ HB))); replace BK253 := zK BK253 hb; replace BK254 := zK BK254 hb; replace HB := zB HB hb; (try clear hb); (try clear ho0); obtain ⟨Ao25, co25, eo25⟩ := rS HO258.out; subst eo25) | ((with_reducible refine gC (f := 25) rfl ?_); refine zJ (some 26) Tryz.func25 #[.slice Ao25 t256.length co25] ?_; (with_reducible refine (impl_back.calls kj1 _ _ t256 t259 _ ?side1 ?side2 A18.out).mono ?_); (case side1 => exact zD HO258); (case side2 => exact (rR HO258.out).2.1); rintro e w26 ⟨v260, rfl, ho0, hb⟩; refine ⟨_, rfl, ?_⟩; have HO261 := A0_ (rL (Kd.R_new' ho0 (rX (zR_ HO258))) (bZ (zB_ HB))); replace HO258 := A0_ (Kd.R_elder' (zR_ HO258) (Kd.R_base ho0) hb); replace BK253 := zK BK253 hb; replace BK254 := zK BK254 hb; replace HB := zB HB hb; (try clear hb); (try clear ho0)))
     replace HO258 := A0_ (rD HO258.out)
     replace HO261 := A0_ (rD HO261.out)
     replace BK253 := A0_ (kD BK253.out)
     replace BK254 := A0_ (kD BK254.out)
     replace HB := A0_ (bD HB.out)
     refine start_ (n := 9) (S := fun w' => True) (ds := []) #[false, false, false, false, false, false, false, false, false] (by kernel_rfl) rfl rfl trivial (fun hHeld => ?_); refine with_tabW impl_TutteQuad.tab5 impl_TutteQuad.bits5 (fun HT_ HW_ => ?_)
     generalize w26.drew = w27 at HO258 HO261 BK253 BK254 HB hHeld ⊢
     refine zP 0 (some 27) #[true,false,false,false,false,false,false,false,false] ?_
     refine zP 1 (some 28) #[true,true,false,false,false,false,false,false,false] ?_
     refine zP 3 (some 30) #[true,true,false,true,false,false,false,false,false] ?_
     refine zP 4 (some 31) #[true,true,false,true,true,false,false,false,false] ?_
     refine join_ (σ := Value × Value × Nat) 1 #[true, true, true, true, true, true, true, true, false] (fun s_ => [(29, s_.1), (32, s_.2.1), (6, .pointer (some ⟨s_.2.2, 0, none⟩)), (33, .agg #[s_.1, s_.2.1])]) (fun s_ w' => (Kd.R (Kd.int .i64) 3 w' w.heap.size (fun k_ => some k_ ≠ (v260 : Value).ownBlock ∧ some k_ ≠ (s_.1 : Value).ownBlock ∧ some k_ ≠ (s_.2.1 : Value).ownBlock) (.slice Ao25 t256.length co25) t256) ∧ (Kd.R (Kd.int .i64) 3 w' w.heap.size (fun k_ => some k_ ≠ (.slice Ao25 t256.length co25 : Value).ownBlock ∧ some k_ ≠ (s_.1 : Value).ownBlock ∧ some k_ ≠ (s_.2.1 : Value).ownBlock) v260 t259) ∧ (Kd.R (Kd.int .i64) 3 w' w.heap.size (fun k_ => some k_ ≠ (.slice Ao25 t256.length co25 : Value).ownBlock ∧ some k_ ≠ (v260 : Value).ownBlock ∧ some k_ ≠ (s_.2.1 : Value).ownBlock) s_.1 y262) ∧ (Kd.R (Kd.int .i64) 3 w' w.heap.size (fun k_ => some k_ ≠ (.slice Ao25 t256.length co25 : Value).ownBlock ∧ some k_ ≠ (v260 : Value).ownBlock ∧ some k_ ≠ (s_.1 : Value).ownBlock) s_.2.1 y265) ∧ (w'.heap[gb253]? = some (.cells #[.slice A0_0 l0_0.length c0_0, .slice A0_1 l0_1.length c0_1] 25 (0, 0))) ∧ (w'.heap[gb254]? = some (.cells #[.slice none 0 0, .slice none 0 0] 25 (0, 0))) ∧ (w'.heap[s_.2.2]? = some (.cells #[.slice none 0 0, .slice none 0 0] 25 (0, 0))) ∧ (w.heap.size ≤ s_.2.2) ∧ (w.heap.size ≤ s_.2.2) ∧ (gb253 ≠ s_.2.2) ∧ (s_.2.2 ≠ gb253) ∧ (gb254 ≠ s_.2.2) ∧ (s_.2.2 ≠ gb254) ∧ (Below w.heap.size w w')) ?_ ?_
     rotate_left
     ·intro hJ2_5_7
      refine join_ (σ := Value × Value) 2 #[true, true, true, true, true, true, true, false, false] (fun s_ => [(29, s_.1), (32, s_.2), (33, .agg #[s_.1, s_.2])]) (fun s_ w' => (Kd.R (Kd.int .i64) 3 w' w.heap.size (fun k_ => some k_ ≠ (v260 : Value).ownBlock ∧ some k_ ≠ (s_.1 : Value).ownBlock ∧ some k_ ≠ (s_.2 : Value).ownBlock) (.slice Ao25 t256.length co25) t256) ∧ (Kd.R (Kd.int .i64) 3 w' w.heap.size (fun k_ => some k_ ≠ (.slice Ao25 t256.length co25 : Value).ownBlock ∧ some k_ ≠ (s_.1 : Value).ownBlock ∧ some k_ ≠ (s_.2 : Value).ownBlock) v260 t259) ∧ (Kd.R (Kd.int .i64) 3 w' w.heap.size (fun k_ => some k_ ≠ (.slice Ao25 t256.length co25 : Value).ownBlock ∧ some k_ ≠ (v260 : Value).ownBlock ∧ some k_ ≠ (s_.2 : Value).ownBlock) s_.1 y262) ∧ (Kd.R (Kd.int .i64) 3 w' w.heap.size (fun k_ => some k_ ≠ (.slice Ao25 t256.length co25 : Value).ownBlock ∧ some k_ ≠ (v260 : Value).ownBlock ∧ some k_ ≠ (s_.1 : Value).ownBlock) s_.2 y265) ∧ (w'.heap[gb253]? = some (.cells #[.slice A0_0 l0_0.length c0_0, .slice A0_1 l0_1.length c0_1] 25 (0, 0))) ∧ (w'.heap[gb254]? = some (.cells #[.slice none 0 0, .slice none 0 0] 25 (0, 0))) ∧ (Below w.heap.size w w')) ?_ ?_
      rotate_left
      ·intro hJ2_5
       refine join_ (σ := Value × Nat) 3 #[true, true, true, true, true, false, false, true, false] (fun s_ => [(29, s_.1), (6, .pointer (some ⟨s_.2, 0, none⟩))]) (fun s_ w' => (Kd.R (Kd.int .i64) 3 w' w.heap.size (fun k_ => some k_ ≠ (v260 : Value).ownBlock ∧ some k_ ≠ (s_.1 : Value).ownBlock) (.slice Ao25 t256.length co25) t256) ∧ (Kd.R (Kd.int .i64) 3 w' w.heap.size (fun k_ => some k_ ≠ (.slice Ao25 t256.length co25 : Value).ownBlock ∧ some k_ ≠ (s_.1 : Value).ownBlock) v260 t259) ∧ (Kd.R (Kd.int .i64) 3 w' w.heap.size (fun k_ => some k_ ≠ (.slice Ao25 t256.length co25 : Value).ownBlock ∧ some k_ ≠ (v260 : Value).ownBlock) s_.1 y262) ∧ (w'.heap[gb253]? = some (.cells #[.slice A0_0 l0_0.length c0_0, .slice A0_1 l0_1.length c0_1] 25 (0, 0))) ∧ (w'.heap[gb254]? = some (.cells #[.slice none 0 0, .slice none 0 0] 25 (0, 0))) ∧ (w'.heap[s_.2]? = some (.cells #[.slice none 0 0, .slice none 0 0] 25 (0, 0))) ∧ (w.heap.size ≤ s_.2) ∧ (w.heap.size ≤ s_.2) ∧ (gb253 ≠ s_.2) ∧ (s_.2 ≠ gb253) ∧ (gb254 ≠ s_.2) ∧ (s_.2 ≠ gb254) ∧ (Below w.heap.size w w')) ?_ ?_
       rotate_left
       ·intro hJ2_7
        refine join_ (σ := Value × Nat) 3 #[true, true, false, true, true, true, false, true, false] (fun s_ => [(32, s_.1), (6, .pointer (some ⟨s_.2, 0, none⟩))]) (fun s_ w' => (Kd.R (Kd.int .i64) 3 w' w.heap.size (fun k_ => some k_ ≠ (v260 : Value).ownBlock ∧ some k_ ≠ (s_.1 : Value).ownBlock) (.slice Ao25 t256.length co25) t256) ∧ (Kd.R (Kd.int .i64) 3 w' w.heap.size (fun k_ => some k_ ≠ (.slice Ao25 t256.length co25 : Value).ownBlock ∧ some k_ ≠ (s_.1 : Value).ownBlock) v260 t259) ∧ (Kd.R (Kd.int .i64) 3 w' w.heap.size (fun k_ => some k_ ≠ (.slice Ao25 t256.length co25 : Value).ownBlock ∧ some k_ ≠ (v260 : Value).ownBlock) s_.1 y265) ∧ (w'.heap[gb253]? = some (.cells #[.slice A0_0 l0_0.length c0_0, .slice A0_1 l0_1.length c0_1] 25 (0, 0))) ∧ (w'.heap[gb254]? = some (.cells #[.slice none 0 0, .slice none 0 0] 25 (0, 0))) ∧ (w'.heap[s_.2]? = some (.cells #[.slice none 0 0, .slice none 0 0] 25 (0, 0))) ∧ (w.heap.size ≤ s_.2) ∧ (w.heap.size ≤ s_.2) ∧ (gb253 ≠ s_.2) ∧ (s_.2 ≠ gb253) ∧ (gb254 ≠ s_.2) ∧ (s_.2 ≠ gb254) ∧ (Below w.heap.size w w')) ?_ ?_
        rotate_left
        ·intro hJ5_7
         refine join_ (σ := Value) 4 #[true, true, true, true, true, false, false, false, false] (fun s_ => [(29, s_)]) (fun s_ w' => (Kd.R (Kd.int .i64) 3 w' w.heap.size (fun k_ => some k_ ≠ (v260 : Value).ownBlock ∧ some k_ ≠ (s_ : Value).ownBlock) (.slice Ao25 t256.length co25) t256) ∧ (Kd.R (Kd.int .i64) 3 w' w.heap.size (fun k_ => some k_ ≠ (.slice Ao25 t256.length co25 : Value).ownBlock ∧ some k_ ≠ (s_ : Value).ownBlock) v260 t259) ∧ (Kd.R (Kd.int .i64) 3 w' w.heap.size (fun k_ => some k_ ≠ (.slice Ao25 t256.length co25 : Value).ownBlock ∧ some k_ ≠ (v260 : Value).ownBlock) s_ y262) ∧ (w'.heap[gb253]? = some (.cells #[.slice A0_0 l0_0.length c0_0, .slice A0_1 l0_1.length c0_1] 25 (0, 0))) ∧ (w'.heap[gb254]? = some (.cells #[.slice none 0 0, .slice none 0 0] 25 (0, 0))) ∧ (Below w.heap.size w w')) ?_ ?_
         rotate_left
         ·intro hJ2
          refine join_ (σ := Value) 4 #[true, true, false, true, true, true, false, false, false] (fun s_ => [(32, s_)]) (fun s_ w' => (Kd.R (Kd.int .i64) 3 w' w.heap.size (fun k_ => some k_ ≠ (v260 : Value).ownBlock ∧ some k_ ≠ (s_ : Value).ownBlock) (.slice Ao25 t256.length co25) t256) ∧ (Kd.R (Kd.int .i64) 3 w' w.heap.size (fun k_ => some k_ ≠ (.slice Ao25 t256.length co25 : Value).ownBlock ∧ some k_ ≠ (s_ : Value).ownBlock) v260 t259) ∧ (Kd.R (Kd.int .i64) 3 w' w.heap.size (fun k_ => some k_ ≠ (.slice Ao25 t256.length co25 : Value).ownBlock ∧ some k_ ≠ (v260 : Value).ownBlock) s_ y265) ∧ (w'.heap[gb253]? = some (.cells #[.slice A0_0 l0_0.length c0_0, .slice A0_1 l0_1.length c0_1] 25 (0, 0))) ∧ (w'.heap[gb254]? = some (.cells #[.slice none 0 0, .slice none 0 0] 25 (0, 0))) ∧ (Below w.heap.size w w')) ?_ ?_
          rotate_left
          ·intro hJ5
           refine join_ (σ := Nat) 4 #[true, true, false, true, true, false, false, true, false] (fun s_ => [(6, .pointer (some ⟨s_, 0, none⟩))]) (fun s_ w' => (Kd.R (Kd.int .i64) 3 w' w.heap.size (fun k_ => some k_ ≠ (v260 : Value).ownBlock) (.slice Ao25 t256.length co25) t256) ∧ (Kd.R (Kd.int .i64) 3 w' w.heap.size (fun k_ => some k_ ≠ (.slice Ao25 t256.length co25 : Value).ownBlock) v260 t259) ∧ (w'.heap[gb253]? = some (.cells #[.slice A0_0 l0_0.length c0_0, .slice A0_1 l0_1.length c0_1] 25 (0, 0))) ∧ (w'.heap[gb254]? = some (.cells #[.slice none 0 0, .slice none 0 0] 25 (0, 0))) ∧ (w'.heap[s_]? = some (.cells #[.slice none 0 0, .slice none 0 0] 25 (0, 0))) ∧ (w.heap.size ≤ s_) ∧ (w.heap.size ≤ s_) ∧ (gb253 ≠ s_) ∧ (s_ ≠ gb253) ∧ (gb254 ≠ s_) ∧ (s_ ≠ gb254) ∧ (Below w.heap.size w w')) ?_ ?_
           rotate_left
           ·intro hJ7
            refine three_ (i := 2) (j := 5) (k := 7) (Ni := some 29) (Nj := some 32) (Nk := some 6) #[true, true, true, true, true, false, false, false, false] #[true, true, false, true, true, true, false, false, false] #[true, true, false, true, true, false, false, true, false] rfl rfl rfl rfl rfl rfl (three_of HT_.out (by kernel_rfl)) (by decide) (by decide) (by decide) (fun K hK => ?_) (fun K hK => ?_) (fun K hK => ?_)
            ·skip
             refine Kd.R_make_step (Kd.int .i64) _ 3 (by rfl) (N := 29) rfl 23 _ _ rfl ji19 rfl rfl Tryz.underlying23 (.int .i64 0) 8 info3 rfl (by decide) (by omega) 0 (ok := fun _ => True) (okp := fun _ => True) rfl (fun _ hk => hk) trivial (zd) (Nat.le_trans (Nat.mul_le_mul_right _ (zd : ji19.toNat ≤ 35184372088832)) (by omega)) (Below.refl _ _) (Nat.le_refl _) ?_
             intro v263 w28 ho29 hb hg_ hnew_
             clear hg_ hnew_
             (first | rw [← Ny262.out] at ho29 | (simp only [Int.reduceToNat] at ho29; rw [← Ny262.out] at ho29))
             have HO264 := A0_ (rL (Kd.R_new' (Kd.R_new' ho29 (rX (zR_ HO258))) (rX (zR_ HO261))) (bZ (zB_ HB)))
             replace HO258 := A0_ (Kd.R_elder' (zR_ HO258) (Kd.R_base ho29) hb)
             replace HO261 := A0_ (Kd.R_elder' (zR_ HO261) (Kd.R_base ho29) hb)
             replace BK253 := zK BK253 hb; replace BK254 := zK BK254 hb; replace HB := zB HB hb; clear hb ho29
             refine hK.out _ _ trivial (fun hHeld => ?_)
             clear hK K
             refine norm_ (a' := ?_) ?_ ?_
             rotate_left
             ·show Act.put _ (some 29) _ = _
              simp only [Act.put, List.setIfInBounds_toArray, List.set_cons_zero, List.set_cons_succ, i64_w, i32_w]
              rfl
             exact norm_ zA (hJ2 (v263) _ ⟨(zmR HO258 (fun _ hk => ⟨hk.1.2, hk.2⟩)), (zmR HO261 (fun _ hk => ⟨hk.1.2, hk.2⟩)), (zmR HO264 (fun _ hk => ⟨hk.1.2, hk.2⟩)), (zK_ BK253), (zK_ BK254), (zB_ HB)⟩)
            ·skip
             refine Kd.R_make_step (Kd.int .i64) _ 3 (by rfl) (N := 32) rfl 23 _ _ rfl ji19 rfl rfl Tryz.underlying23 (.int .i64 0) 8 info3 rfl (by decide) (by omega) 0 (ok := fun _ => True) (okp := fun _ => True) rfl (fun _ hk => hk) trivial (zd) (Nat.le_trans (Nat.mul_le_mul_right _ (zd : ji19.toNat ≤ 35184372088832)) (by omega)) (Below.refl _ _) (Nat.le_refl _) ?_
             intro v266 w28 ho29 hb hg_ hnew_
             clear hg_ hnew_
             (first | rw [← Ny265.out] at ho29 | (simp only [Int.reduceToNat] at ho29; rw [← Ny265.out] at ho29))
             have HO267 := A0_ (rL (Kd.R_new' (Kd.R_new' ho29 (rX (zR_ HO258))) (rX (zR_ HO261))) (bZ (zB_ HB)))
             replace HO258 := A0_ (Kd.R_elder' (zR_ HO258) (Kd.R_base ho29) hb)
             replace HO261 := A0_ (Kd.R_elder' (zR_ HO261) (Kd.R_base ho29) hb)
             replace BK253 := zK BK253 hb; replace BK254 := zK BK254 hb; replace HB := zB HB hb; clear hb ho29
             refine hK.out _ _ trivial (fun hHeld => ?_)
             clear hK K
             refine norm_ (a' := ?_) ?_ ?_
             rotate_left
             ·show Act.put _ (some 32) _ = _
              simp only [Act.put, List.setIfInBounds_toArray, List.set_cons_zero, List.set_cons_succ, i64_w, i32_w]
              rfl
             exact norm_ zA (hJ5 (v266) _ ⟨(zmR HO258 (fun _ hk => ⟨hk.1.2, hk.2⟩)), (zmR HO261 (fun _ hk => ⟨hk.1.2, hk.2⟩)), (zmR HO267 (fun _ hk => ⟨hk.1.2, hk.2⟩)), (zK_ BK253), (zK_ BK254), (zB_ HB)⟩)
            skip
            refine box_step ?hg (N := 6) ?hd (cs := #[.slice none 0 0, .slice none 0 0]) (t := 25) ?hr ?_; (case hd => rfl); (case hg => rfl); (case hr => first | (go_simp; done) | (go_simp; rfl))
            intro gb268 hg w28 hbox hb
            replace HO258 := zR HO258 hb; replace HO261 := zR HO261 hb
            have BK268 := A0_ (hbox)
            have GW268 := zG hg HB; have GE268 := zG hg HB; replace HB := zB HB hb; have NB253_268 := zL hg BK253; have NB268_253 := zM hg BK253; replace BK253 := zK BK253 hb; have NB254_268 := zL hg BK254; have NB268_254 := zM hg BK254; replace BK254 := zK BK254 hb; clear hb hbox hg
            refine hK.out _ _ trivial (fun hHeld => ?_)
            clear hK K
            refine norm_ (a' := ?_) ?_ ?_
            rotate_left
            ·show Act.put _ (some 6) _ = _
             simp only [Act.put, List.setIfInBounds_toArray, List.set_cons_zero, List.set_cons_succ, i64_w, i32_w]
             rfl
            exact norm_ zA (hJ7 (gb268) _ ⟨(zmR HO258 (fun _ hk => hk.2)), (zmR HO261 (fun _ hk => hk.2)), (zK_ BK253), (zK_ BK254), (zK_ BK268), GW268.out, GE268.out, NB253_268.out, NB268_253.out, NB254_268.out, NB268_254.out, (zB_ HB)⟩)
           skip
           rintro gb268 w29 ⟨h0_, h1_, h2_, h3_, h4_, h5_, h6_, h7_, h8_, h9_, h10_, h11_⟩
           replace HO258 : Aside0 (Kd.R (Kd.int .i64) 3 w29 w.heap.size (fun k_ => some k_ ≠ (v260 : Value).ownBlock) (.slice Ao25 t256.length co25) t256) := ⟨h0_⟩
           replace HO261 : Aside0 (Kd.R (Kd.int .i64) 3 w29 w.heap.size (fun k_ => some k_ ≠ (.slice Ao25 t256.length co25 : Value).ownBlock) v260 t259) := ⟨h1_⟩
           replace BK253 : Aside0 (w29.heap[gb253]? = some (.cells #[.slice A0_0 l0_0.length c0_0, .slice A0_1 l0_1.length c0_1] 25 (0, 0))) := ⟨h2_⟩
           replace BK254 : Aside0 (w29.heap[gb254]? = some (.cells #[.slice none 0 0, .slice none 0 0] 25 (0, 0))) := ⟨h3_⟩
           have BK268 : Aside0 (w29.heap[gb268]? = some (.cells #[.slice none 0 0, .slice none 0 0] 25 (0, 0))) := ⟨h4_⟩
           have GW268 : Aside0 (w.heap.size ≤ gb268) := ⟨h5_⟩
           have GE268 : Aside0 (w.heap.size ≤ gb268) := ⟨h6_⟩
           have NB253_268 : Aside0 (gb253 ≠ gb268) := ⟨h7_⟩
           have NB268_253 : Aside0 (gb268 ≠ gb253) := ⟨h8_⟩
           have NB254_268 : Aside0 (gb254 ≠ gb268) := ⟨h9_⟩
           have NB268_254 : Aside0 (gb268 ≠ gb254) := ⟨h10_⟩
           replace HB : Aside0 (Below w.heap.size w w29) := ⟨h11_⟩
           clear h0_ h1_ h2_ h3_ h4_ h5_ h6_ h7_ h8_ h9_ h10_ h11_; have hHeld := trivial
           refine norm_ (a' := ?_) ?_ ?_
           rotate_left
           ·simp only [putAll, Act.put, List.setIfInBounds_toArray, List.set_cons_zero, List.set_cons_succ]
            rfl
           refine two_ (i := 2) (j := 5) (Ni := some 29) (Nj := some 32) #[true, true, true, true, true, false, false, true, false] #[true, true, false, true, true, true, false, true, false] rfl rfl rfl rfl (two_of HT_.out (by kernel_rfl)) (by decide) (by decide) (fun K hK => ?_) (fun K hK => ?_)
           ·skip
            refine Kd.R_make_step (Kd.int .i64) _ 3 (by rfl) (N := 29) rfl 23 _ _ rfl ji19 rfl rfl Tryz.underlying23 (.int .i64 0) 8 info3 rfl (by decide) (by omega) 0 (ok := fun _ => True) (okp := fun _ => True) rfl (fun _ hk => hk) trivial (zd) (Nat.le_trans (Nat.mul_le_mul_right _ (zd : ji19.toNat ≤ 35184372088832)) (by omega)) (Below.refl _ _) (Nat.le_refl _) ?_
            intro v263 w30 ho31 hb hg_ hnew_
            clear hg_ hnew_
            (first | rw [← Ny262.out] at ho31 | (simp only [Int.reduceToNat] at ho31; rw [← Ny262.out] at ho31))
            have HO264 := A0_ (rL (Kd.R_new' (Kd.R_new' ho31 (rX (zR_ HO258))) (rX (zR_ HO261))) (bZ (zB_ HB)))
            replace HO258 := A0_ (Kd.R_elder' (zR_ HO258) (Kd.R_base ho31) hb)
            replace HO261 := A0_ (Kd.R_elder' (zR_ HO261) (Kd.R_base ho31) hb)
            replace BK253 := zK BK253 hb; replace BK254 := zK BK254 hb; replace BK268 := zK BK268 hb; replace HB := zB HB hb; clear hb ho31
            refine hK.out _ _ trivial (fun hHeld => ?_)
            clear hK K
            refine norm_ (a' := ?_) ?_ ?_
            rotate_left
            ·show Act.put _ (some 29) _ = _
             simp only [Act.put, List.setIfInBounds_toArray, List.set_cons_zero, List.set_cons_succ, i64_w, i32_w]
             rfl
            exact norm_ zA (hJ2_7 (v263, gb268) _ ⟨(zR_ HO258), (zR_ HO261), (zmR HO264 (fun _ hk => ⟨hk.1.2, hk.2⟩)), (zK_ BK253), (zK_ BK254), (zK_ BK268), GW268.out, GE268.out, NB253_268.out, NB268_253.out, NB254_268.out, NB268_254.out, (zB_ HB)⟩)
           skip
           refine Kd.R_make_step (Kd.int .i64) _ 3 (by rfl) (N := 32) rfl 23 _ _ rfl ji19 rfl rfl Tryz.underlying23 (.int .i64 0) 8 info3 rfl (by decide) (by omega) 0 (ok := fun _ => True) (okp := fun _ => True) rfl (fun _ hk => hk) trivial (zd) (Nat.le_trans (Nat.mul_le_mul_right _ (zd : ji19.toNat ≤ 35184372088832)) (by omega)) (Below.refl _ _) (Nat.le_refl _) ?_
           intro v266 w30 ho31 hb hg_ hnew_
           clear hg_ hnew_
           (first | rw [← Ny265.out] at ho31 | (simp only [Int.reduceToNat] at ho31; rw [← Ny265.out] at ho31))
           have HO267 := A0_ (rL (Kd.R_new' (Kd.R_new' ho31 (rX (zR_ HO258))) (rX (zR_ HO261))) (bZ (zB_ HB)))
           replace HO258 := A0_ (Kd.R_elder' (zR_ HO258) (Kd.R_base ho31) hb)
           replace HO261 := A0_ (Kd.R_elder' (zR_ HO261) (Kd.R_base ho31) hb)
           replace BK253 := zK BK253 hb; replace BK254 := zK BK254 hb; replace BK268 := zK BK268 hb; replace HB := zB HB hb; clear hb ho31
           refine hK.out _ _ trivial (fun hHeld => ?_)
           clear hK K
           refine norm_ (a' := ?_) ?_ ?_
           rotate_left
           ·show Act.put _ (some 32) _ = _
            simp only [Act.put, List.setIfInBounds_toArray, List.set_cons_zero, List.set_cons_succ, i64_w, i32_w]
            rfl
           exact norm_ zA (hJ5_7 (v266, gb268) _ ⟨(zR_ HO258), (zR_ HO261), (zmR HO267 (fun _ hk => ⟨hk.1.2, hk.2⟩)), (zK_ BK253), (zK_ BK254), (zK_ BK268), GW268.out, GE268.out, NB253_268.out, NB268_253.out, NB254_268.out, NB268_254.out, (zB_ HB)⟩)
          skip
          rintro v266 w30 ⟨h0_, h1_, h2_, h3_, h4_, h5_⟩
          replace HO258 : Aside0 (Kd.R (Kd.int .i64) 3 w30 w.heap.size (fun k_ => some k_ ≠ (v260 : Value).ownBlock ∧ some k_ ≠ (v266 : Value).ownBlock) (.slice Ao25 t256.length co25) t256) := ⟨h0_⟩
          replace HO261 : Aside0 (Kd.R (Kd.int .i64) 3 w30 w.heap.size (fun k_ => some k_ ≠ (.slice Ao25 t256.length co25 : Value).ownBlock ∧ some k_ ≠ (v266 : Value).ownBlock) v260 t259) := ⟨h1_⟩
          have HO267 : Aside0 (Kd.R (Kd.int .i64) 3 w30 w.heap.size (fun k_ => some k_ ≠ (.slice Ao25 t256.length co25 : Value).ownBlock ∧ some k_ ≠ (v260 : Value).ownBlock) v266 y265) := ⟨h2_⟩
          replace BK253 : Aside0 (w30.heap[gb253]? = some (.cells #[.slice A0_0 l0_0.length c0_0, .slice A0_1 l0_1.length c0_1] 25 (0, 0))) := ⟨h3_⟩
          replace BK254 : Aside0 (w30.heap[gb254]? = some (.cells #[.slice none 0 0, .slice none 0 0] 25 (0, 0))) := ⟨h4_⟩
          replace HB : Aside0 (Below w.heap.size w w30) := ⟨h5_⟩
          clear h0_ h1_ h2_ h3_ h4_ h5_; have hHeld := trivial
          refine norm_ (a' := ?_) ?_ ?_
          rotate_left
          ·simp only [putAll, Act.put, List.setIfInBounds_toArray, List.set_cons_zero, List.set_cons_succ]
           rfl
          refine two_ (i := 2) (j := 7) (Ni := some 29) (Nj := some 6) #[true, true, true, true, true, true, false, false, false] #[true, true, false, true, true, true, false, true, false] rfl rfl rfl rfl (two_of HT_.out (by kernel_rfl)) (by decide) (by decide) (fun K hK => ?_) (fun K hK => ?_)
          ·skip
           refine Kd.R_make_step (Kd.int .i64) _ 3 (by rfl) (N := 29) rfl 23 _ _ rfl ji19 rfl rfl Tryz.underlying23 (.int .i64 0) 8 info3 rfl (by decide) (by omega) 0 (ok := fun _ => True) (okp := fun _ => True) rfl (fun _ hk => hk) trivial (zd) (Nat.le_trans (Nat.mul_le_mul_right _ (zd : ji19.toNat ≤ 35184372088832)) (by omega)) (Below.refl _ _) (Nat.le_refl _) ?_
           intro v263 w31 ho32 hb hg_ hnew_
           clear hg_ hnew_
           (first | rw [← Ny262.out] at ho32 | (simp only [Int.reduceToNat] at ho32; rw [← Ny262.out] at ho32))
           have HO264 := A0_ (rL (Kd.R_new' (Kd.R_new' (Kd.R_new' ho32 (rX (zR_ HO258))) (rX (zR_ HO261))) (rX (zR_ HO267))) (bZ (zB_ HB)))
           replace HO258 := A0_ (Kd.R_elder' (zR_ HO258) (Kd.R_base ho32) hb)
           replace HO261 := A0_ (Kd.R_elder' (zR_ HO261) (Kd.R_base ho32) hb)
           replace HO267 := A0_ (Kd.R_elder' (zR_ HO267) (Kd.R_base ho32) hb)
           replace BK253 := zK BK253 hb; replace BK254 := zK BK254 hb; replace HB := zB HB hb; clear hb ho32; obtain ⟨Ao33, co33, eo33⟩ := rS HO267.out
           (first | subst eo33 | (injection eo33 with f1_ f2_ f3_; have f4_ := f1_.symm; have f5_ := f3_.symm; clear f1_ f2_ f3_; subst f4_; subst f5_))
           obtain ⟨Ao34, co34, eo34⟩ := rS HO264.out
           (first | subst eo34 | (injection eo34 with f1_ f2_ f3_; have f4_ := f1_.symm; have f5_ := f3_.symm; clear f1_ f2_ f3_; subst f4_; subst f5_))
           refine hK.out _ _ trivial (fun hHeld => ?_)
           clear hK K
           refine norm_ (a' := ?_) ?_ ?_
           rotate_left
           ·show Act.put _ (some 29) _ = _
            simp only [Act.put, List.setIfInBounds_toArray, List.set_cons_zero, List.set_cons_succ, i64_w, i32_w]
            rfl
           refine zP 6 (some 33) #[true,true,true,true,true,true,true,false,false] ?_
           exact norm_ zA (hJ2_5 (.slice Ao34 y262.length co34, .slice Ao33 y265.length co33) _ ⟨(zmR HO258 (fun _ hk => ⟨hk.1.1, ⟨hk.2, hk.1.2⟩⟩)), (zmR HO261 (fun _ hk => ⟨hk.1.1, ⟨hk.2, hk.1.2⟩⟩)), (zmR HO264 (fun _ hk => ⟨hk.1.1.2, ⟨hk.1.2, hk.2⟩⟩)), (zmR HO267 (fun _ hk => ⟨hk.1.1, ⟨hk.1.2, hk.2⟩⟩)), (zK_ BK253), (zK_ BK254), (zB_ HB)⟩)
          skip
          refine box_step ?hg (N := 6) ?hd (cs := #[.slice none 0 0, .slice none 0 0]) (t := 25) ?hr ?_; (case hd => rfl); (case hg => rfl); (case hr => first | (go_simp; done) | (go_simp; rfl))
          intro gb268 hg w31 hbox hb
          replace HO258 := zR HO258 hb; replace HO261 := zR HO261 hb; replace HO267 := zR HO267 hb
          have BK268 := A0_ (hbox)
          have GW268 := zG hg HB; have GE268 := zG hg HB; replace HB := zB HB hb; have NB253_268 := zL hg BK253; have NB268_253 := zM hg BK253; replace BK253 := zK BK253 hb; have NB254_268 := zL hg BK254; have NB268_254 := zM hg BK254; replace BK254 := zK BK254 hb; clear hb hbox hg
          refine hK.out _ _ trivial (fun hHeld => ?_)
          clear hK K
          refine norm_ (a' := ?_) ?_ ?_
          rotate_left
          ·show Act.put _ (some 6) _ = _
           simp only [Act.put, List.setIfInBounds_toArray, List.set_cons_zero, List.set_cons_succ, i64_w, i32_w]
           rfl
          exact norm_ zA (hJ5_7 (v266, gb268) _ ⟨(zR_ HO258), (zR_ HO261), (zR_ HO267), (zK_ BK253), (zK_ BK254), (zK_ BK268), GW268.out, GE268.out, NB253_268.out, NB268_253.out, NB254_268.out, NB268_254.out, (zB_ HB)⟩)
         skip
         rintro v263 w30 ⟨h0_, h1_, h2_, h3_, h4_, h5_⟩
         replace HO258 : Aside0 (Kd.R (Kd.int .i64) 3 w30 w.heap.size (fun k_ => some k_ ≠ (v260 : Value).ownBlock ∧ some k_ ≠ (v263 : Value).ownBlock) (.slice Ao25 t256.length co25) t256) := ⟨h0_⟩
         replace HO261 : Aside0 (Kd.R (Kd.int .i64) 3 w30 w.heap.size (fun k_ => some k_ ≠ (.slice Ao25 t256.length co25 : Value).ownBlock ∧ some k_ ≠ (v263 : Value).ownBlock) v260 t259) := ⟨h1_⟩
         have HO264 : Aside0 (Kd.R (Kd.int .i64) 3 w30 w.heap.size (fun k_ => some k_ ≠ (.slice Ao25 t256.length co25 : Value).ownBlock ∧ some k_ ≠ (v260 : Value).ownBlock) v263 y262) := ⟨h2_⟩
         replace BK253 : Aside0 (w30.heap[gb253]? = some (.cells #[.slice A0_0 l0_0.length c0_0, .slice A0_1 l0_1.length c0_1] 25 (0, 0))) := ⟨h3_⟩
         replace BK254 : Aside0 (w30.heap[gb254]? = some (.cells #[.slice none 0 0, .slice none 0 0] 25 (0, 0))) := ⟨h4_⟩
         replace HB : Aside0 (Below w.heap.size w w30) := ⟨h5_⟩
         clear h0_ h1_ h2_ h3_ h4_ h5_; have hHeld := trivial
         refine norm_ (a' := ?_) ?_ ?_
         rotate_left
         ·simp only [putAll, Act.put, List.setIfInBounds_toArray, List.set_cons_zero, List.set_cons_succ]
          rfl
         refine two_ (i := 5) (j := 7) (Ni := some 32) (Nj := some 6) #[true, true, true, true, true, true, false, false, false] #[true, true, true, true, true, false, false, true, false] rfl rfl rfl rfl (two_of HT_.out (by kernel_rfl)) (by decide) (by decide) (fun K hK => ?_) (fun K hK => ?_)
         ·skip
          refine Kd.R_make_step (Kd.int .i64) _ 3 (by rfl) (N := 32) rfl 23 _ _ rfl ji19 rfl rfl Tryz.underlying23 (.int .i64 0) 8 info3 rfl (by decide) (by omega) 0 (ok := fun _ => True) (okp := fun _ => True) rfl (fun _ hk => hk) trivial (zd) (Nat.le_trans (Nat.mul_le_mul_right _ (zd : ji19.toNat ≤ 35184372088832)) (by omega)) (Below.refl _ _) (Nat.le_refl _) ?_
          intro v266 w31 ho32 hb hg_ hnew_
          clear hg_ hnew_
          (first | rw [← Ny265.out] at ho32 | (simp only [Int.reduceToNat] at ho32; rw [← Ny265.out] at ho32))
          have HO267 := A0_ (rL (Kd.R_new' (Kd.R_new' (Kd.R_new' ho32 (rX (zR_ HO258))) (rX (zR_ HO261))) (rX (zR_ HO264))) (bZ (zB_ HB)))
          replace HO258 := A0_ (Kd.R_elder' (zR_ HO258) (Kd.R_base ho32) hb)
          replace HO261 := A0_ (Kd.R_elder' (zR_ HO261) (Kd.R_base ho32) hb)
          replace HO264 := A0_ (Kd.R_elder' (zR_ HO264) (Kd.R_base ho32) hb)
          replace BK253 := zK BK253 hb; replace BK254 := zK BK254 hb; replace HB := zB HB hb; clear hb ho32; obtain ⟨Ao33, co33, eo33⟩ := rS HO267.out
          (first | subst eo33 | (injection eo33 with f1_ f2_ f3_; have f4_ := f1_.symm; have f5_ := f3_.symm; clear f1_ f2_ f3_; subst f4_; subst f5_))
          obtain ⟨Ao34, co34, eo34⟩ := rS HO264.out
          (first | subst eo34 | (injection eo34 with f1_ f2_ f3_; have f4_ := f1_.symm; have f5_ := f3_.symm; clear f1_ f2_ f3_; subst f4_; subst f5_))
          refine hK.out _ _ trivial (fun hHeld => ?_)
          clear hK K
          refine norm_ (a' := ?_) ?_ ?_
          rotate_left
          ·show Act.put _ (some 32) _ = _
           simp only [Act.put, List.setIfInBounds_toArray, List.set_cons_zero, List.set_cons_succ, i64_w, i32_w]
           rfl
          refine zP 6 (some 33) #[true,true,true,true,true,true,true,false,false] ?_
          exact norm_ zA (hJ2_5 (.slice Ao34 y262.length co34, .slice Ao33 y265.length co33) _ ⟨(zmR HO258 (fun _ hk => ⟨hk.1.1, ⟨hk.1.2, hk.2⟩⟩)), (zmR HO261 (fun _ hk => ⟨hk.1.1, ⟨hk.1.2, hk.2⟩⟩)), (zmR HO264 (fun _ hk => ⟨hk.1.1, ⟨hk.1.2, hk.2⟩⟩)), (zmR HO267 (fun _ hk => ⟨hk.1.1.2, ⟨hk.1.2, hk.2⟩⟩)), (zK_ BK253), (zK_ BK254), (zB_ HB)⟩)
         skip
         refine box_step ?hg (N := 6) ?hd (cs := #[.slice none 0 0, .slice none 0 0]) (t := 25) ?hr ?_; (case hd => rfl); (case hg => rfl); (case hr => first | (go_simp; done) | (go_simp; rfl))
         intro gb268 hg w31 hbox hb
         replace HO258 := zR HO258 hb; replace HO261 := zR HO261 hb; replace HO264 := zR HO264 hb
         have BK268 := A0_ (hbox)
         have GW268 := zG hg HB; have GE268 := zG hg HB; replace HB := zB HB hb; have NB253_268 := zL hg BK253; have NB268_253 := zM hg BK253; replace BK253 := zK BK253 hb; have NB254_268 := zL hg BK254; have NB268_254 := zM hg BK254; replace BK254 := zK BK254 hb; clear hb hbox hg
         refine hK.out _ _ trivial (fun hHeld => ?_)
         clear hK K
         refine norm_ (a' := ?_) ?_ ?_
         rotate_left
         ·show Act.put _ (some 6) _ = _
          simp only [Act.put, List.setIfInBounds_toArray, List.set_cons_zero, List.set_cons_succ, i64_w, i32_w]
          rfl
         exact norm_ zA (hJ2_7 (v263, gb268) _ ⟨(zR_ HO258), (zR_ HO261), (zR_ HO264), (zK_ BK253), (zK_ BK254), (zK_ BK268), GW268.out, GE268.out, NB253_268.out, NB268_253.out, NB254_268.out, NB268_254.out, (zB_ HB)⟩)
        skip
        rintro ⟨v266, gb268⟩ w31 ⟨h0_, h1_, h2_, h3_, h4_, h5_, h6_, h7_, h8_, h9_, h10_, h11_, h12_⟩
        replace HO258 : Aside0 (Kd.R (Kd.int .i64) 3 w31 w.heap.size (fun k_ => some k_ ≠ (v260 : Value).ownBlock ∧ some k_ ≠ (v266 : Value).ownBlock) (.slice Ao25 t256.length co25) t256) := ⟨h0_⟩
        replace HO261 : Aside0 (Kd.R (Kd.int .i64) 3 w31 w.heap.size (fun k_ => some k_ ≠ (.slice Ao25 t256.length co25 : Value).ownBlock ∧ some k_ ≠ (v266 : Value).ownBlock) v260 t259) := ⟨h1_⟩
        have HO267 : Aside0 (Kd.R (Kd.int .i64) 3 w31 w.heap.size (fun k_ => some k_ ≠ (.slice Ao25 t256.length co25 : Value).ownBlock ∧ some k_ ≠ (v260 : Value).ownBlock) v266 y265) := ⟨h2_⟩
        replace BK253 : Aside0 (w31.heap[gb253]? = some (.cells #[.slice A0_0 l0_0.length c0_0, .slice A0_1 l0_1.length c0_1] 25 (0, 0))) := ⟨h3_⟩
        replace BK254 : Aside0 (w31.heap[gb254]? = some (.cells #[.slice none 0 0, .slice none 0 0] 25 (0, 0))) := ⟨h4_⟩
        have BK268 : Aside0 (w31.heap[gb268]? = some (.cells #[.slice none 0 0, .slice none 0 0] 25 (0, 0))) := ⟨h5_⟩
        have GW268 : Aside0 (w.heap.size ≤ gb268) := ⟨h6_⟩
        have GE268 : Aside0 (w.heap.size ≤ gb268) := ⟨h7_⟩
        have NB253_268 : Aside0 (gb253 ≠ gb268) := ⟨h8_⟩
        have NB268_253 : Aside0 (gb268 ≠ gb253) := ⟨h9_⟩
        have NB254_268 : Aside0 (gb254 ≠ gb268) := ⟨h10_⟩
        have NB268_254 : Aside0 (gb268 ≠ gb254) := ⟨h11_⟩
        replace HB : Aside0 (Below w.heap.size w w31) := ⟨h12_⟩
        clear h0_ h1_ h2_ h3_ h4_ h5_ h6_ h7_ h8_ h9_ h10_ h11_ h12_; have hHeld := trivial
        refine norm_ (a' := ?_) ?_ ?_
        rotate_left
        ·simp only [putAll, Act.put, List.setIfInBounds_toArray, List.set_cons_zero, List.set_cons_succ]
         rfl
        refine one_ (i := 2) (N := some 29) #[true, true, true, true, true, true, false, true, false] rfl rfl (one_of HT_.out (by kernel_rfl)) (by decide) (fun K hK => ?_)
        refine Kd.R_make_step (Kd.int .i64) _ 3 (by rfl) (N := 29) rfl 23 _ _ rfl ji19 rfl rfl Tryz.underlying23 (.int .i64 0) 8 info3 rfl (by decide) (by omega) 0 (ok := fun _ => True) (okp := fun _ => True) rfl (fun _ hk => hk) trivial (zd) (Nat.le_trans (Nat.mul_le_mul_right _ (zd : ji19.toNat ≤ 35184372088832)) (by omega)) (Below.refl _ _) (Nat.le_refl _) ?_
        intro v263 w32 ho33 hb hg_ hnew_
        clear hg_ hnew_
        (first | rw [← Ny262.out] at ho33 | (simp only [Int.reduceToNat] at ho33; rw [← Ny262.out] at ho33))
        have HO264 := A0_ (rL (Kd.R_new' (Kd.R_new' (Kd.R_new' ho33 (rX (zR_ HO258))) (rX (zR_ HO261))) (rX (zR_ HO267))) (bZ (zB_ HB)))
        replace HO258 := A0_ (Kd.R_elder' (zR_ HO258) (Kd.R_base ho33) hb)
        replace HO261 := A0_ (Kd.R_elder' (zR_ HO261) (Kd.R_base ho33) hb)
        replace HO267 := A0_ (Kd.R_elder' (zR_ HO267) (Kd.R_base ho33) hb)
        replace BK253 := zK BK253 hb; replace BK254 := zK BK254 hb; replace BK268 := zK BK268 hb; replace HB := zB HB hb; clear hb ho33; obtain ⟨Ao34, co34, eo34⟩ := rS HO267.out
        (first | subst eo34 | (injection eo34 with f1_ f2_ f3_; have f4_ := f1_.symm; have f5_ := f3_.symm; clear f1_ f2_ f3_; subst f4_; subst f5_))
        obtain ⟨Ao35, co35, eo35⟩ := rS HO264.out
        (first | subst eo35 | (injection eo35 with f1_ f2_ f3_; have f4_ := f1_.symm; have f5_ := f3_.symm; clear f1_ f2_ f3_; subst f4_; subst f5_))
        refine hK.out _ _ trivial (fun hHeld => ?_)
        clear hK K
        refine norm_ (a' := ?_) ?_ ?_
        rotate_left
        ·show Act.put _ (some 29) _ = _
         simp only [Act.put, List.setIfInBounds_toArray, List.set_cons_zero, List.set_cons_succ, i64_w, i32_w]
         rfl
        refine zP 6 (some 33) #[true,true,true,true,true,true,true,true,false] ?_
        exact norm_ zA (hJ2_5_7 (.slice Ao35 y262.length co35, .slice Ao34 y265.length co34, gb268) _ ⟨(zmR HO258 (fun _ hk => ⟨hk.1.1, ⟨hk.2, hk.1.2⟩⟩)), (zmR HO261 (fun _ hk => ⟨hk.1.1, ⟨hk.2, hk.1.2⟩⟩)), (zmR HO264 (fun _ hk => ⟨hk.1.1.2, ⟨hk.1.2, hk.2⟩⟩)), (zmR HO267 (fun _ hk => ⟨hk.1.1, ⟨hk.1.2, hk.2⟩⟩)), (zK_ BK253), (zK_ BK254), (zK_ BK268), GW268.out, GE268.out, NB253_268.out, NB268_253.out, NB254_268.out, NB268_254.out, (zB_ HB)⟩)
       skip
       rintro ⟨v263, gb268⟩ w31 ⟨h0_, h1_, h2_, h3_, h4_, h5_, h6_, h7_, h8_, h9_, h10_, h11_, h12_⟩
       replace HO258 : Aside0 (Kd.R (Kd.int .i64) 3 w31 w.heap.size (fun k_ => some k_ ≠ (v260 : Value).ownBlock ∧ some k_ ≠ (v263 : Value).ownBlock) (.slice Ao25 t256.length co25) t256) := ⟨h0_⟩
       replace HO261 : Aside0 (Kd.R (Kd.int .i64) 3 w31 w.heap.size (fun k_ => some k_ ≠ (.slice Ao25 t256.length co25 : Value).ownBlock ∧ some k_ ≠ (v263 : Value).ownBlock) v260 t259) := ⟨h1_⟩
       have HO264 : Aside0 (Kd.R (Kd.int .i64) 3 w31 w.heap.size (fun k_ => some k_ ≠ (.slice Ao25 t256.length co25 : Value).ownBlock ∧ some k_ ≠ (v260 : Value).ownBlock) v263 y262) := ⟨h2_⟩
       replace BK253 : Aside0 (w31.heap[gb253]? = some (.cells #[.slice A0_0 l0_0.length c0_0, .slice A0_1 l0_1.length c0_1] 25 (0, 0))) := ⟨h3_⟩
       replace BK254 : Aside0 (w31.heap[gb254]? = some (.cells #[.slice none 0 0, .slice none 0 0] 25 (0, 0))) := ⟨h4_⟩
       have BK268 : Aside0 (w31.heap[gb268]? = some (.cells #[.slice none 0 0, .slice none 0 0] 25 (0, 0))) := ⟨h5_⟩
       have GW268 : Aside0 (w.heap.size ≤ gb268) := ⟨h6_⟩
       have GE268 : Aside0 (w.heap.size ≤ gb268) := ⟨h7_⟩
       have NB253_268 : Aside0 (gb253 ≠ gb268) := ⟨h8_⟩
       have NB268_253 : Aside0 (gb268 ≠ gb253) := ⟨h9_⟩
       have NB254_268 : Aside0 (gb254 ≠ gb268) := ⟨h10_⟩
       have NB268_254 : Aside0 (gb268 ≠ gb254) := ⟨h11_⟩
       replace HB : Aside0 (Below w.heap.size w w31) := ⟨h12_⟩
       clear h0_ h1_ h2_ h3_ h4_ h5_ h6_ h7_ h8_ h9_ h10_ h11_ h12_; have hHeld := trivial
       refine norm_ (a' := ?_) ?_ ?_
       rotate_left
       ·simp only [putAll, Act.put, List.setIfInBounds_toArray, List.set_cons_zero, List.set_cons_succ]
        rfl
       refine one_ (i := 5) (N := some 32) #[true, true, true, true, true, true, false, true, false] rfl rfl (one_of HT_.out (by kernel_rfl)) (by decide) (fun K hK => ?_)
       refine Kd.R_make_step (Kd.int .i64) _ 3 (by rfl) (N := 32) rfl 23 _ _ rfl ji19 rfl rfl Tryz.underlying23 (.int .i64 0) 8 info3 rfl (by decide) (by omega) 0 (ok := fun _ => True) (okp := fun _ => True) rfl (fun _ hk => hk) trivial (zd) (Nat.le_trans (Nat.mul_le_mul_right _ (zd : ji19.toNat ≤ 35184372088832)) (by omega)) (Below.refl _ _) (Nat.le_refl _) ?_
       intro v266 w32 ho33 hb hg_ hnew_
       clear hg_ hnew_
       (first | rw [← Ny265.out] at ho33 | (simp only [Int.reduceToNat] at ho33; rw [← Ny265.out] at ho33))
       have HO267 := A0_ (rL (Kd.R_new' (Kd.R_new' (Kd.R_new' ho33 (rX (zR_ HO258))) (rX (zR_ HO261))) (rX (zR_ HO264))) (bZ (zB_ HB)))
       replace HO258 := A0_ (Kd.R_elder' (zR_ HO258) (Kd.R_base ho33) hb)
       replace HO261 := A0_ (Kd.R_elder' (zR_ HO261) (Kd.R_base ho33) hb)
       replace HO264 := A0_ (Kd.R_elder' (zR_ HO264) (Kd.R_base ho33) hb)
       replace BK253 := zK BK253 hb; replace BK254 := zK BK254 hb; replace BK268 := zK BK268 hb; replace HB := zB HB hb; clear hb ho33; obtain ⟨Ao34, co34, eo34⟩ := rS HO267.out
       (first | subst eo34 | (injection eo34 with f1_ f2_ f3_; have f4_ := f1_.symm; have f5_ := f3_.symm; clear f1_ f2_ f3_; subst f4_; subst f5_))
       obtain ⟨Ao35, co35, eo35⟩ := rS HO264.out
       (first | subst eo35 | (injection eo35 with f1_ f2_ f3_; have f4_ := f1_.symm; have f5_ := f3_.symm; clear f1_ f2_ f3_; subst f4_; subst f5_))
       refine hK.out _ _ trivial (fun hHeld => ?_)
       clear hK K
       refine norm_ (a' := ?_) ?_ ?_
       rotate_left
       ·show Act.put _ (some 32) _ = _
        simp only [Act.put, List.setIfInBounds_toArray, List.set_cons_zero, List.set_cons_succ, i64_w, i32_w]
        rfl
       refine zP 6 (some 33) #[true,true,true,true,true,true,true,true,false] ?_
       exact norm_ zA (hJ2_5_7 (.slice Ao35 y262.length co35, .slice Ao34 y265.length co34, gb268) _ ⟨(zmR HO258 (fun _ hk => ⟨hk.1.1, ⟨hk.1.2, hk.2⟩⟩)), (zmR HO261 (fun _ hk => ⟨hk.1.1, ⟨hk.1.2, hk.2⟩⟩)), (zmR HO264 (fun _ hk => ⟨hk.1.1, ⟨hk.1.2, hk.2⟩⟩)), (zmR HO267 (fun _ hk => ⟨hk.1.1.2, ⟨hk.1.2, hk.2⟩⟩)), (zK_ BK253), (zK_ BK254), (zK_ BK268), GW268.out, GE268.out, NB253_268.out, NB268_253.out, NB254_268.out, NB268_254.out, (zB_ HB)⟩)
      skip
      rintro ⟨v263, v266⟩ w34 ⟨h0_, h1_, h2_, h3_, h4_, h5_, h6_⟩
      replace HO258 : Aside0 (Kd.R (Kd.int .i64) 3 w34 w.heap.size (fun k_ => some k_ ≠ (v260 : Value).ownBlock ∧ some k_ ≠ (v263 : Value).ownBlock ∧ some k_ ≠ (v266 : Value).ownBlock) (.slice Ao25 t256.length co25) t256) := ⟨h0_⟩
      replace HO261 : Aside0 (Kd.R (Kd.int .i64) 3 w34 w.heap.size (fun k_ => some k_ ≠ (.slice Ao25 t256.length co25 : Value).ownBlock ∧ some k_ ≠ (v263 : Value).ownBlock ∧ some k_ ≠ (v266 : Value).ownBlock) v260 t259) := ⟨h1_⟩
      have HO264 : Aside0 (Kd.R (Kd.int .i64) 3 w34 w.heap.size (fun k_ => some k_ ≠ (.slice Ao25 t256.length co25 : Value).ownBlock ∧ some k_ ≠ (v260 : Value).ownBlock ∧ some k_ ≠ (v266 : Value).ownBlock) v263 y262) := ⟨h2_⟩
      have HO267 : Aside0 (Kd.R (Kd.int .i64) 3 w34 w.heap.size (fun k_ => some k_ ≠ (.slice Ao25 t256.length co25 : Value).ownBlock ∧ some k_ ≠ (v260 : Value).ownBlock ∧ some k_ ≠ (v263 : Value).ownBlock) v266 y265) := ⟨h3_⟩
      replace BK253 : Aside0 (w34.heap[gb253]? = some (.cells #[.slice A0_0 l0_0.length c0_0, .slice A0_1 l0_1.length c0_1] 25 (0, 0))) := ⟨h4_⟩
      replace BK254 : Aside0 (w34.heap[gb254]? = some (.cells #[.slice none 0 0, .slice none 0 0] 25 (0, 0))) := ⟨h5_⟩
      replace HB : Aside0 (Below w.heap.size w w34) := ⟨h6_⟩
      clear h0_ h1_ h2_ h3_ h4_ h5_ h6_; have hHeld := trivial; obtain ⟨Ao35, co35, eo35⟩ := rS HO267.out
      (first | subst eo35 | (injection eo35 with f1_ f2_ f3_; have f4_ := f1_.symm; have f5_ := f3_.symm; clear f1_ f2_ f3_; subst f4_; subst f5_))
      obtain ⟨Ao36, co36, eo36⟩ := rS HO264.out
      (first | subst eo36 | (injection eo36 with f1_ f2_ f3_; have f4_ := f1_.symm; have f5_ := f3_.symm; clear f1_ f2_ f3_; subst f4_; subst f5_))
      refine norm_ (a' := ?_) ?_ ?_
      rotate_left
      ·simp only [putAll, Act.put, List.setIfInBounds_toArray, List.set_cons_zero, List.set_cons_succ]
       rfl
      refine one_ (i := 7) (N := some 6) #[true, true, true, true, true, true, true, true, false] rfl rfl (one_of HT_.out (by kernel_rfl)) (by decide) (fun K hK => ?_)
      refine box_step ?hg (N := 6) ?hd (cs := #[.slice none 0 0, .slice none 0 0]) (t := 25) ?hr ?_; (case hd => rfl); (case hg => rfl); (case hr => first | (go_simp; done) | (go_simp; rfl))
      intro gb268 hg w37 hbox hb
      replace HO258 := zR HO258 hb; replace HO261 := zR HO261 hb; replace HO264 := zR HO264 hb; replace HO267 := zR HO267 hb
      have BK268 := A0_ (hbox)
      have GW268 := zG hg HB; have GE268 := zG hg HB; replace HB := zB HB hb; have NB253_268 := zL hg BK253; have NB268_253 := zM hg BK253; replace BK253 := zK BK253 hb; have NB254_268 := zL hg BK254; have NB268_254 := zM hg BK254; replace BK254 := zK BK254 hb; clear hb hbox hg
      refine hK.out _ _ trivial (fun hHeld => ?_)
      clear hK K
      refine norm_ (a' := ?_) ?_ ?_
      rotate_left
      ·show Act.put _ (some 6) _ = _
       simp only [Act.put, List.setIfInBounds_toArray, List.set_cons_zero, List.set_cons_succ, i64_w, i32_w]
       rfl
      exact norm_ zA (hJ2_5_7 (.slice Ao36 y262.length co36, .slice Ao35 y265.length co35, gb268) _ ⟨(zR_ HO258), (zR_ HO261), (zR_ HO264), (zR_ HO267), (zK_ BK253), (zK_ BK254), (zK_ BK268), GW268.out, GE268.out, NB253_268.out, NB268_253.out, NB254_268.out, NB268_254.out, (zB_ HB)⟩)
     rintro ⟨v263, v266, gb268⟩ w35 ⟨h0_, h1_, h2_, h3_, h4_, h5_, h6_, h7_, h8_, h9_, h10_, h11_, h12_, h13_⟩
     replace HO258 : Aside0 (Kd.R (Kd.int .i64) 3 w35 w.heap.size (fun k_ => some k_ ≠ (v260 : Value).ownBlock ∧ some k_ ≠ (v263 : Value).ownBlock ∧ some k_ ≠ (v266 : Value).ownBlock) (.slice Ao25 t256.length co25) t256) := ⟨h0_⟩
     replace HO261 : Aside0 (Kd.R (Kd.int .i64) 3 w35 w.heap.size (fun k_ => some k_ ≠ (.slice Ao25 t256.length co25 : Value).ownBlock ∧ some k_ ≠ (v263 : Value).ownBlock ∧ some k_ ≠ (v266 : Value).ownBlock) v260 t259) := ⟨h1_⟩
     have HO264 : Aside0 (Kd.R (Kd.int .i64) 3 w35 w.heap.size (fun k_ => some k_ ≠ (.slice Ao25 t256.length co25 : Value).ownBlock ∧ some k_ ≠ (v260 : Value).ownBlock ∧ some k_ ≠ (v266 : Value).ownBlock) v263 y262) := ⟨h2_⟩
     have HO267 : Aside0 (Kd.R (Kd.int .i64) 3 w35 w.heap.size (fun k_ => some k_ ≠ (.slice Ao25 t256.length co25 : Value).ownBlock ∧ some k_ ≠ (v260 : Value).ownBlock ∧ some k_ ≠ (v263 : Value).ownBlock) v266 y265) := ⟨h3_⟩
     replace BK253 : Aside0 (w35.heap[gb253]? = some (.cells #[.slice A0_0 l0_0.length c0_0, .slice A0_1 l0_1.length c0_1] 25 (0, 0))) := ⟨h4_⟩
     replace BK254 : Aside0 (w35.heap[gb254]? = some (.cells #[.slice none 0 0, .slice none 0 0] 25 (0, 0))) := ⟨h5_⟩
     have BK268 : Aside0 (w35.heap[gb268]? = some (.cells #[.slice none 0 0, .slice none 0 0] 25 (0, 0))) := ⟨h6_⟩
     have GW268 : Aside0 (w.heap.size ≤ gb268) := ⟨h7_⟩
     have GE268 : Aside0 (w.heap.size ≤ gb268) := ⟨h8_⟩
     have NB253_268 : Aside0 (gb253 ≠ gb268) := ⟨h9_⟩
     have NB268_253 : Aside0 (gb268 ≠ gb253) := ⟨h10_⟩
     have NB254_268 : Aside0 (gb254 ≠ gb268) := ⟨h11_⟩
     have NB268_254 : Aside0 (gb268 ≠ gb254) := ⟨h12_⟩
     replace HB : Aside0 (Below w.heap.size w w35) := ⟨h13_⟩
     clear h0_ h1_ h2_ h3_ h4_ h5_ h6_ h7_ h8_ h9_ h10_ h11_ h12_ h13_; have hHeld := trivial; obtain ⟨Ao36, co36, eo36⟩ := rS HO267.out
     (first | subst eo36 | (injection eo36 with f1_ f2_ f3_; have f4_ := f1_.symm; have f5_ := f3_.symm; clear f1_ f2_ f3_; subst f4_; subst f5_))
     obtain ⟨Ao37, co37, eo37⟩ := rS HO264.out
     (first | subst eo37 | (injection eo37 with f1_ f2_ f3_; have f4_ := f1_.symm; have f5_ := f3_.symm; clear f1_ f2_ f3_; subst f4_; subst f5_))
     refine norm_ (a' := ?_) ?_ ?_
     rotate_left
     ·simp only [putAll, Act.put, List.setIfInBounds_toArray, List.set_cons_zero, List.set_cons_succ]
      rfl
     refine one_ (i := 8) (N := none) #[true, true, true, true, true, true, true, true, true] rfl rfl (one_of HT_.out (by kernel_rfl)) (by decide) (fun K hK => ?_)
     have hs38 : w35.cell? ⟨gb268, 0, none⟩ = some (.slice none 0 0) := (kC BK268.out 0).trans rfl
     have hfs38 := kF BK268.out 0; have hns38_0 := NB253_268.out; have hns38_1 := NB254_268.out; have hms38_0 := NB268_253.out; have hms38_1 := NB268_254.out
     have hs39 : w35.cell? ⟨gb268, 1, none⟩ = some (.slice none 0 0) := (kC BK268.out 1).trans rfl
     have hfs39 := kF BK268.out 1; have hns39_0 := NB253_268.out; have hns39_1 := NB254_268.out; have hms39_0 := NB268_253.out; have hms39_1 := NB268_254.out
     refine skip_ (w1 := ?_) (by rfl) rfl ?_ ?_
     rotate_left
     ·go_simp
      rfl
     refine hK.out _ _ trivial (fun hHeld => ?_)
     clear hK K
     refine done_ (done_of HT_.out (by kernel_rfl)) ?_
     try go_wp2
     go_loopg [35] kj1 (fun kq v35 w' => ∃ (x5_2 : List Int) (x35_2 : Int) (x269000_2 : List Int) (x269001_2 : List Int) (u269000 : Value) (u269001 : Value), v35 = .int .i64 x35_2 ∧ Aside0 (impl_TutteQuad.l0 kq x5_2 (l0_0.length : Int) x35_2 l0_0 l0_1 x269000_2 x269001_2 = some (r1, r2, r3)) ∧ Aside0 (kq ≤ kj1) ∧ Aside0 (Kd.R (Kd.int .i64) 3 w' w.heap.size (fun k_ => some k_ ≠ (u269000 : Value).ownBlock ∧ some k_ ≠ (u269001 : Value).ownBlock) v260 x5_2) ∧ Aside0 (Kd.R (Kd.int .i64) 3 w' w.heap.size (fun k_ => some k_ ≠ (v260 : Value).ownBlock ∧ some k_ ≠ (u269001 : Value).ownBlock) u269000 x269000_2) ∧ Aside0 (Kd.R (Kd.int .i64) 3 w' w.heap.size (fun k_ => some k_ ≠ (v260 : Value).ownBlock ∧ some k_ ≠ (u269000 : Value).ownBlock) u269001 x269001_2) ∧ Aside0 (w'.heap[gb253]? = some (.cells #[(.slice A0_0 l0_0.length c0_0), (.slice A0_1 l0_1.length c0_1)] 25 (0, 0))) ∧ Aside0 (w'.heap[gb254]? = some (.cells #[(.slice none 0 0), (.slice none 0 0)] 25 (0, 0))) ∧ Aside0 (w'.heap[gb268]? = some (.cells #[u269000, u269001] 25 (0, 0))) ∧ Aside0 (Below w.heap.size w w'))
     case atStart => exact ⟨(t259), (0), (y262), (y265), (.slice Ao37 y262.length co37), (.slice Ao36 y265.length co36), zt, H', ⟨Nat.le_refl _⟩, ⟨by (with_reducible repeat (first | apply rA | apply rN | apply rD)); exact rM (rF (p := ⟨gb268, 1, none⟩) (rF (p := ⟨gb268, 0, none⟩) (rY HO261.out BK268.out (by decide)) (fun _ hk => hk.2) (.slice Ao37 y262.length co37)) (fun _ hk => hk.2) (.slice Ao36 y265.length co36)) (fun _ hk => ⟨hk.1.2.1, hk.1.2.2⟩)⟩, ⟨by (with_reducible repeat (first | apply rA | apply rN | apply rD)); exact rM (rF (p := ⟨gb268, 1, none⟩) (rF (p := ⟨gb268, 0, none⟩) (rY HO264.out BK268.out (by decide)) (fun _ hk => hk.2) (.slice Ao37 y262.length co37)) (fun _ hk => hk.2) (.slice Ao36 y265.length co36)) (fun _ hk => ⟨hk.1.2.1, hk.1.2.2⟩)⟩, ⟨by (with_reducible repeat (first | apply rA | apply rN | apply rD)); exact rM (rF (p := ⟨gb268, 1, none⟩) (rF (p := ⟨gb268, 0, none⟩) (rY HO267.out BK268.out (by decide)) (fun _ hk => hk.2) (.slice Ao37 y262.length co37)) (fun _ hk => hk.2) (.slice Ao36 y265.length co36)) (fun _ hk => ⟨hk.1.2.1, hk.1.2.2⟩)⟩, ⟨by (with_reducible repeat (first | refine kN ?_ _ | refine kD ?_ | refine kA ?_ _)); refine blk_far ?_ NB253_268.out _; (with_reducible repeat (first | refine kN ?_ _ | refine kD ?_ | refine kA ?_ _)); refine blk_far ?_ NB253_268.out _; (with_reducible repeat (first | refine kN ?_ _ | refine kD ?_ | refine kA ?_ _)); exact BK253.out⟩, ⟨by (with_reducible repeat (first | refine kN ?_ _ | refine kD ?_ | refine kA ?_ _)); refine blk_far ?_ NB254_268.out _; (with_reducible repeat (first | refine kN ?_ _ | refine kD ?_ | refine kA ?_ _)); refine blk_far ?_ NB254_268.out _; (with_reducible repeat (first | refine kN ?_ _ | refine kD ?_ | refine kA ?_ _)); exact BK254.out⟩, ⟨by (with_reducible repeat (first | refine kN ?_ _ | refine kD ?_ | refine kA ?_ _)); refine blk_put (cs := #[.slice Ao37 y262.length co37, .slice none 0 0]) ?_ 1 _ rfl; (with_reducible repeat (first | refine kN ?_ _ | refine kD ?_ | refine kA ?_ _)); refine blk_put (cs := #[.slice none 0 0, .slice none 0 0]) ?_ 0 _ rfl; (with_reducible repeat (first | refine kN ?_ _ | refine kD ?_ | refine kA ?_ _)); exact BK268.out⟩, ⟨zB_ HB⟩⟩
     case round =>
      clear H'; (try clear p2); obtain ⟨x5_2, x35_2, x269000_2, x269001_2, u269000, u269001, rfl, HA, HK2, HO_5, HO_269000, HO_269001, BK253, BK254, BK268, HB⟩ := hrel
      cases gk with
      | zero => exact absurd HA.out (by simp [impl_TutteQuad.l0])
      | succ k2 =>
       have H := HA.out; clear HA; simp only [impl_TutteQuad.l0] at H
       by_cases c40 : x35_2 < (l0_0.length : Int)
       ·rw [if_pos c40] at H
        have c40b0 := dT c40; clear c40
        obtain ⟨ji41, hji41⟩ : ∃ j_ : Int, (wrap64 (2 * x35_2)) = j_ := ⟨_, rfl⟩
        replace H : (if 0 ≤ (ji41) then (if (ji41) < (x269001_2.length : Int) then (if 0 ≤ (wrap64 ((ji41) + 1)) then (if (wrap64 ((ji41) + 1)) < (x269001_2.length : Int) then (if 0 ≤ x35_2 then (if x35_2 < (l0_0.length : Int) then (if (ji41) < (x269000_2.length : Int) then (if x35_2 < (x5_2.length : Int) then (if (wrap64 ((ji41) + 1)) < (x269000_2.length : Int) then (impl_TutteQuad.l0 k2 x5_2 (l0_0.length : Int) (wrap64 (x35_2 + 1)) l0_0 l0_1 ((x269000_2.set ((ji41) : Int).toNat (wrap64 (2 * (rd l0_0 x35_2)))).set ((wrap64 ((ji41) + 1)) : Int).toNat (wrap64 ((wrap64 (2 * (rd x5_2 x35_2))) + 1))) ((x269001_2.set ((ji41) : Int).toNat (wrap64 ((ji41) + 1))).set ((wrap64 ((ji41) + 1)) : Int).toNat (ji41))) else (none)) else (none)) else (none)) else (none)) else (none)) else (none)) else (none)) else (none)) else (none)) = some (r1, r2, r3) := by first | (rw [hji41] at H; exact H) | (simp only [hji41] at H ⊢; exact H)
        have hji41w : (IntKind.i64.wrap (2 * x35_2)) = ji41 := (i64_w _).trans hji41
        by_cases c42 : 0 ≤ (ji41)
        ·rw [if_pos c42] at H
         have c42b0 := dT c42; clear c42
         by_cases c43 : (ji41) < (x269001_2.length : Int)
         ·rw [if_pos c43] at H
          have c43b0 := dT c43; clear c43
          obtain ⟨y269, hy269⟩ : ∃ y_ : List Int, y_ = (x269001_2.set ((ji41) : Int).toNat (wrap64 ((ji41) + 1))) := ⟨_, rfl⟩
          replace H : (if 0 ≤ (wrap64 ((ji41) + 1)) then (if (wrap64 ((ji41) + 1)) < (x269001_2.length : Int) then (if 0 ≤ x35_2 then (if x35_2 < (l0_0.length : Int) then (if (ji41) < (x269000_2.length : Int) then (if x35_2 < (x5_2.length : Int) then (if (wrap64 ((ji41) + 1)) < (x269000_2.length : Int) then (impl_TutteQuad.l0 k2 x5_2 (l0_0.length : Int) (wrap64 (x35_2 + 1)) l0_0 l0_1 ((x269000_2.set ((ji41) : Int).toNat (wrap64 (2 * (rd l0_0 x35_2)))).set ((wrap64 ((ji41) + 1)) : Int).toNat (wrap64 ((wrap64 (2 * (rd x5_2 x35_2))) + 1))) (y269.set ((wrap64 ((ji41) + 1)) : Int).toNat (ji41))) else (none)) else (none)) else (none)) else (none)) else (none)) else (none)) else (none)) = some (r1, r2, r3) := zH hy269 H
          have Ny269 := A0_ hy269; clear hy269
          obtain ⟨ji45, hji45⟩ : ∃ j_ : Int, (wrap64 ((ji41) + 1)) = j_ := ⟨_, rfl⟩
          replace H : (if 0 ≤ (ji45) then (if (ji45) < (x269001_2.length : Int) then (if 0 ≤ x35_2 then (if x35_2 < (l0_0.length : Int) then (if (ji41) < (x269000_2.length : Int) then (if x35_2 < (x5_2.length : Int) then (if (ji45) < (x269000_2.length : Int) then (impl_TutteQuad.l0 k2 x5_2 (l0_0.length : Int) (wrap64 (x35_2 + 1)) l0_0 l0_1 ((x269000_2.set ((ji41) : Int).toNat (wrap64 (2 * (rd l0_0 x35_2)))).set ((ji45) : Int).toNat (wrap64 ((wrap64 (2 * (rd x5_2 x35_2))) + 1))) (y269.set ((ji45) : Int).toNat (ji41))) else (none)) else (none)) else (none)) else (none)) else (none)) else (none)) else (none)) = some (r1, r2, r3) := by first | (rw [hji45] at H; exact H) | (simp only [hji45] at H ⊢; exact H)
          (try rw [hji45] at Ny269)
          have hji45w : (IntKind.i64.wrap ((ji41) + 1)) = ji45 := (i64_w _).trans hji45
          by_cases c46 : 0 ≤ (ji45)
          ·rw [if_pos c46] at H
           have c46b0 := dT c46; clear c46
           by_cases c47 : (ji45) < (x269001_2.length : Int)
           ·rw [if_pos c47] at H
            have c47b0 := dT c47; clear c47
            obtain ⟨y270, hy270⟩ : ∃ y_ : List Int, y_ = (y269.set ((ji45) : Int).toNat (ji41)) := ⟨_, rfl⟩
            replace H : (if 0 ≤ x35_2 then (if x35_2 < (l0_0.length : Int) then (if (ji41) < (x269000_2.length : Int) then (if x35_2 < (x5_2.length : Int) then (if (ji45) < (x269000_2.length : Int) then (impl_TutteQuad.l0 k2 x5_2 (l0_0.length : Int) (wrap64 (x35_2 + 1)) l0_0 l0_1 ((x269000_2.set ((ji41) : Int).toNat (wrap64 (2 * (rd l0_0 x35_2)))).set ((ji45) : Int).toNat (wrap64 ((wrap64 (2 * (rd x5_2 x35_2))) + 1))) y270) else (none)) else (none)) else (none)) else (none)) else (none)) = some (r1, r2, r3) := zH hy270 H
            have Ny270 := A0_ hy270; clear hy270
            by_cases c49 : 0 ≤ x35_2
            ·rw [if_pos c49] at H
             have c49b0 := dT c49; clear c49
             by_cases c50 : x35_2 < (l0_0.length : Int)
             ·rw [if_pos c50] at H
              have c50b0 := dT c50; clear c50
              by_cases c51 : (ji41) < (x269000_2.length : Int)
              ·rw [if_pos c51] at H
               have c51b0 := dT c51; clear c51
               obtain ⟨y272, hy272⟩ : ∃ y_ : List Int, y_ = (x269000_2.set ((ji41) : Int).toNat (wrap64 (2 * (rd l0_0 x35_2)))) := ⟨_, rfl⟩
               replace H : (if x35_2 < (x5_2.length : Int) then (if (ji45) < (x269000_2.length : Int) then (impl_TutteQuad.l0 k2 x5_2 (l0_0.length : Int) (wrap64 (x35_2 + 1)) l0_0 l0_1 (y272.set ((ji45) : Int).toNat (wrap64 ((wrap64 (2 * (rd x5_2 x35_2))) + 1))) y270) else (none)) else (none)) = some (r1, r2, r3) := zH hy272 H
               have Ny272 := A0_ hy272; clear hy272
               by_cases c53 : x35_2 < (x5_2.length : Int)
               ·rw [if_pos c53] at H
                have c53b0 := dT c53; clear c53
                by_cases c54 : (ji45) < (x269000_2.length : Int)
                ·rw [if_pos c54] at H
                 have c54b0 := dT c54; clear c54
                 obtain ⟨y274, hy274⟩ : ∃ y_ : List Int, y_ = (y272.set ((ji45) : Int).toNat (wrap64 ((wrap64 (2 * (rd x5_2 x35_2))) + 1))) := ⟨_, rfl⟩
                 replace H : (impl_TutteQuad.l0 k2 x5_2 (l0_0.length : Int) (wrap64 (x35_2 + 1)) l0_0 l0_1 y274 y270) = some (r1, r2, r3) := zH hy274 H
                 have Ny274 := A0_ hy274; clear hy274; have H' := A0_ H; clear H
                 try go_wp2
                 replace HO_5 := A0_ (rD HO_5.out)
                 replace HO_269000 := A0_ (rD HO_269000.out)
                 replace HO_269001 := A0_ (rD HO_269001.out)
                 replace BK253 := A0_ (kD BK253.out)
                 replace BK254 := A0_ (kD BK254.out)
                 replace BK268 := A0_ (kD BK268.out)
                 replace HB := A0_ (bD HB.out)
                 have p44 : 0 ≤ ((ji41) : Int) := zd
                 have q44 : ((ji41) : Int) < ((x269001_2.length : Int) : Int) := zd
                 obtain ⟨go44, co44, eo44, gb44, gl44, cl44, HG44⟩ := Kd.R_form HO_269001.out (by omega)
                 (first | cases eo44 | (injection eo44 with ea_ en_ ec_; (first | subst ea_ | (injection ea_ with ea_; subst ea_)); subst ec_; clear en_))
                 have GB44 := A0_ gb44; have GG44 := A0_ HG44; clear gb44 gl44 HG44
                 obtain ⟨hx44_0, hf44_0⟩ := Kd.R_celln 0 HO_269001.out ((ji41) : Int) p44 q44
                 replace p44 := eq_true p44; replace q44 := eq_true q44
                 have HP57 := Kd.R_putn HO_269001.out ((ji41) : Int) ji45
                 rw [← Ny269.out] at HP57
                 have HQ57 := A0_ HP57; clear HP57
                 have p48 : 0 ≤ ((ji45) : Int) := zd
                 have q48 : ((ji45) : Int) < ((x269001_2.length : Int) : Int) := zd
                 obtain ⟨hx48_0, hf48_0⟩ := Kd.R_celln 0 HQ57.out ((ji45) : Int) p48 q48
                 replace p48 := eq_true p48; replace q48 := eq_true q48
                 have HP58 := Kd.R_putn HQ57.out ((ji45) : Int) ji41
                 rw [← Ny270.out] at HP58
                 have HQ58 := A0_ HP58; clear HP58
                 refine start_ (n := 18) (S := fun w' => w'.cell? ⟨gb268, 0, none⟩ = some (u269000) ∧ w'.cell? ⟨gb268, 1, none⟩ = some (.slice (some ⟨go44, 0, none⟩) x269001_2.length co44)) (ds := [17]) #[false, false, false, false, false, false, false, false, false, false, false, false, false, false, false, false, false, false] (by kernel_rfl) rfl rfl ⟨(kC BK268.out 0).trans rfl, (kC BK268.out 1).trans rfl⟩ (fun hHeld => ?_); refine with_tabW impl_TutteQuad.tab9 impl_TutteQuad.bits9 (fun HT_ HW_ => ?_)
                 generalize wr.drew = w56 at HO_5 HO_269000 HO_269001 BK253 BK254 BK268 HB GG44 HQ57 HQ58 hf44_0 hf48_0 hx44_0 hx48_0 hHeld ⊢
                 refine zP 0 (some 38) #[true,false,false,false,false,false,false,false,false,false,false,false,false,false,false,false,false,false] ?_
                 refine zP 2 (some 40) #[true,false,true,false,false,false,false,false,false,false,false,false,false,false,false,false,false,false] ?_
                 refine zP 3 (some 41) #[true,false,true,true,false,false,false,false,false,false,false,false,false,false,false,false,false,false] ?_
                 refine zP 4 (some 42) #[true,false,true,true,true,false,false,false,false,false,false,false,false,false,false,false,false,false] ?_
                 refine zP 6 (some 44) #[true,false,true,true,true,false,true,false,false,false,false,false,false,false,false,false,false,false] ?_
                 refine zP 7 (some 45) #[true,false,true,true,true,false,true,true,false,false,false,false,false,false,false,false,false,false] ?_
                 refine zP 8 (some 46) #[true,false,true,true,true,false,true,true,true,false,false,false,false,false,false,false,false,false] ?_
                 refine zP 9 (some 47) #[true,false,true,true,true,false,true,true,true,true,false,false,false,false,false,false,false,false] ?_
                 refine zP 10 (some 48) #[true,false,true,true,true,false,true,true,true,true,true,false,false,false,false,false,false,false] ?_
                 refine zP 11 (some 49) #[true,false,true,true,true,false,true,true,true,true,true,true,false,false,false,false,false,false] ?_
                 refine zP 12 (some 50) #[true,false,true,true,true,false,true,true,true,true,true,true,true,false,false,false,false,false] ?_
                 refine zP 13 (some 51) #[true,false,true,true,true,false,true,true,true,true,true,true,true,true,false,false,false,false] ?_
                 refine take_ (i := 1) (N := some 39) (v := ?_) (a' := ?_) #[true, true, true, true, true, false, true, true, true, true, true, true, true, true, false, false, false, false] rfl rfl (take_ofW HT_.out HW_.out (by kernel_rfl)) (fun _ _ _ h => h) (Or.inl ⟨by rfl, ?_⟩) hHeld ?_ ?_
                 rotate_left
                 ·rintro w' ⟨s0, s1⟩
                  go_simp
                  with_reducible rfl
                 rotate_left
                 ·simp only [Act.put, List.setIfInBounds_toArray, List.set_cons_zero, List.set_cons_succ, i64_w, i32_w]
                  rfl
                 refine zP 14 (some 52) #[true,true,true,true,true,false,true,true,true,true,true,true,true,true,true,false,false,false] ?_
                 refine take_ (i := 5) (N := some 43) (v := ?_) (a' := ?_) #[true, true, true, true, true, true, true, true, true, true, true, true, true, true, true, false, false, false] rfl rfl (take_ofW HT_.out HW_.out (by kernel_rfl)) (fun _ _ _ h => h) (Or.inl ⟨by rfl, ?_⟩) hHeld ?_ ?_
                 rotate_left
                 ·rintro w' ⟨s0, s1⟩
                  go_simp
                  with_reducible rfl
                 rotate_left
                 ·simp only [Act.put, List.setIfInBounds_toArray, List.set_cons_zero, List.set_cons_succ, i64_w, i32_w]
                  rfl
                 refine one_ (i := 15) (N := none) #[true, true, true, true, true, true, true, true, true, true, true, true, true, true, true, true, false, false] rfl rfl (one_of HT_.out (by kernel_rfl)) (by decide) (fun K hK => ?_)
                 refine skip_ (w1 := ?_) (by rfl) rfl ?_ ?_
                 rotate_left
                 ·go_simp
                  rfl
                 refine hK.out _ _ ⟨(cell_far (show gb268 ≠ _ from (by have h_ := Kd.R_ne HO_269001.out BK268.out (by decide); intro e_; exact h_ (by rw [e_]; rfl))) _).trans (hHeld.1), (cell_far (show gb268 ≠ _ from (by have h_ := Kd.R_ne HO_269001.out BK268.out (by decide); intro e_; exact h_ (by rw [e_]; rfl))) _).trans (hHeld.2)⟩ (fun hHeld => ?_)
                 clear hK K
                 refine zP 16 (some 53) #[true,true,true,true,true,true,true,true,true,true,true,true,true,true,true,true,true,false] ?_
                 refine last_ (i := 17) (N := none) #[true, true, true, true, true, true, true, true, true, true, true, true, true, true, true, true, true, true] rfl rfl (one_of HT_.out (by kernel_rfl)) (by decide) (fun K hK => ?_)
                 refine skip_ (w1 := ?_) (by rfl) rfl ?_ ?_
                 rotate_left
                 ·go_simp
                  rfl
                 refine hK.out _ _ ?_
                 clear hK K
                 refine done_ (done_of HT_.out (by kernel_rfl)) ?_
                 try go_wp2
                 have n0_ : Aside0 (Kd.R (Kd.int .i64) 3 ((w56.setCell ⟨go44, ((ji41) : Int).toNat, none⟩ (.int .i64 ji45)).setCell ⟨go44, ((ji45) : Int).toNat, none⟩ (.int .i64 ji41)) w.heap.size (fun k_ => some k_ ≠ (u269000 : Value).ownBlock ∧ some k_ ≠ (.slice (some ⟨go44, 0, none⟩) x269001_2.length co44 : Value).ownBlock) v260 x5_2) := ⟨by (with_reducible repeat (first | apply rA | apply rN | apply rD)); exact rM (rF (p := ⟨go44, ((ji45) : Int).toNat, none⟩) (rF (p := ⟨go44, ((ji41) : Int).toNat, none⟩) (rM HO_5.out (fun k_ hk => (⟨hk, fun e_ => hk.2 (by rw [e_]; rfl)⟩ : _ ∧ k_ ≠ go44))) (fun _ hk => hk.2) (.int .i64 ji45)) (fun _ hk => hk.2) (.int .i64 ji41)) (fun _ hk => ⟨hk.1.1, hk.1.2⟩)⟩
                 have n1_ : Aside0 (Kd.R (Kd.int .i64) 3 ((w56.setCell ⟨go44, ((ji41) : Int).toNat, none⟩ (.int .i64 ji45)).setCell ⟨go44, ((ji45) : Int).toNat, none⟩ (.int .i64 ji41)) w.heap.size (fun k_ => some k_ ≠ (v260 : Value).ownBlock ∧ some k_ ≠ (.slice (some ⟨go44, 0, none⟩) x269001_2.length co44 : Value).ownBlock) u269000 x269000_2) := ⟨by (with_reducible repeat (first | apply rA | apply rN | apply rD)); exact rM (rF (p := ⟨go44, ((ji45) : Int).toNat, none⟩) (rF (p := ⟨go44, ((ji41) : Int).toNat, none⟩) (rM HO_269000.out (fun k_ hk => (⟨hk, fun e_ => hk.2 (by rw [e_]; rfl)⟩ : _ ∧ k_ ≠ go44))) (fun _ hk => hk.2) (.int .i64 ji45)) (fun _ hk => hk.2) (.int .i64 ji41)) (fun _ hk => ⟨hk.1.1, hk.1.2⟩)⟩
                 have n2_ : Aside0 (Kd.R (Kd.int .i64) 3 ((w56.setCell ⟨go44, ((ji41) : Int).toNat, none⟩ (.int .i64 ji45)).setCell ⟨go44, ((ji45) : Int).toNat, none⟩ (.int .i64 ji41)) w.heap.size (fun k_ => some k_ ≠ (v260 : Value).ownBlock ∧ some k_ ≠ (u269000 : Value).ownBlock) (.slice (some ⟨go44, 0, none⟩) x269001_2.length co44) y270) := ⟨zR_ HQ58⟩
                 have n3_ : Aside0 (((w56.setCell ⟨go44, ((ji41) : Int).toNat, none⟩ (.int .i64 ji45)).setCell ⟨go44, ((ji45) : Int).toNat, none⟩ (.int .i64 ji41)).heap[gb253]? = some (.cells #[.slice A0_0 l0_0.length c0_0, .slice A0_1 l0_1.length c0_1] 25 (0, 0))) := ⟨by (with_reducible repeat (first | refine kN ?_ _ | refine kD ?_ | refine kA ?_ _)); refine blk_far ?_ (by have h_ := Kd.R_ne HO_269001.out BK253.out (by decide); intro e_; exact h_ (by rw [e_]; rfl)) _; (with_reducible repeat (first | refine kN ?_ _ | refine kD ?_ | refine kA ?_ _)); refine blk_far ?_ (by have h_ := Kd.R_ne HO_269001.out BK253.out (by decide); intro e_; exact h_ (by rw [e_]; rfl)) _; (with_reducible repeat (first | refine kN ?_ _ | refine kD ?_ | refine kA ?_ _)); exact BK253.out⟩
                 have n4_ : Aside0 (((w56.setCell ⟨go44, ((ji41) : Int).toNat, none⟩ (.int .i64 ji45)).setCell ⟨go44, ((ji45) : Int).toNat, none⟩ (.int .i64 ji41)).heap[gb254]? = some (.cells #[.slice none 0 0, .slice none 0 0] 25 (0, 0))) := ⟨by (with_reducible repeat (first | refine kN ?_ _ | refine kD ?_ | refine kA ?_ _)); refine blk_far ?_ (by have h_ := Kd.R_ne HO_269001.out BK254.out (by decide); intro e_; exact h_ (by rw [e_]; rfl)) _; (with_reducible repeat (first | refine kN ?_ _ | refine kD ?_ | refine kA ?_ _)); refine blk_far ?_ (by have h_ := Kd.R_ne HO_269001.out BK254.out (by decide); intro e_; exact h_ (by rw [e_]; rfl)) _; (with_reducible repeat (first | refine kN ?_ _ | refine kD ?_ | refine kA ?_ _)); exact BK254.out⟩
                 have n5_ : Aside0 (((w56.setCell ⟨go44, ((ji41) : Int).toNat, none⟩ (.int .i64 ji45)).setCell ⟨go44, ((ji45) : Int).toNat, none⟩ (.int .i64 ji41)).heap[gb268]? = some (.cells #[u269000, .slice (some ⟨go44, 0, none⟩) x269001_2.length co44] 25 (0, 0))) := ⟨by (with_reducible repeat (first | refine kN ?_ _ | refine kD ?_ | refine kA ?_ _)); refine blk_far ?_ (by have h_ := Kd.R_ne HO_269001.out BK268.out (by decide); intro e_; exact h_ (by rw [e_]; rfl)) _; (with_reducible repeat (first | refine kN ?_ _ | refine kD ?_ | refine kA ?_ _)); refine blk_far ?_ (by have h_ := Kd.R_ne HO_269001.out BK268.out (by decide); intro e_; exact h_ (by rw [e_]; rfl)) _; (with_reducible repeat (first | refine kN ?_ _ | refine kD ?_ | refine kA ?_ _)); exact BK268.out⟩
                 have n6_ : Aside0 (Below w.heap.size w ((w56.setCell ⟨go44, ((ji41) : Int).toNat, none⟩ (.int .i64 ji45)).setCell ⟨go44, ((ji45) : Int).toNat, none⟩ (.int .i64 ji41))) := ⟨by repeat (first | (with_reducible first | exact HB.out | apply bA | apply bN | apply bD | refine bS ?_ GB44.out | refine bS ?_ GB44.out | refine bS ?_ GE253.out | refine bS ?_ GE254.out | refine bS ?_ GE268.out) | exact HB.out)⟩
                 (try clear HO_5); (try clear HO_269000); (try clear HO_269001); (try clear BK253); (try clear BK254); (try clear BK268); (try clear HB)
                 generalize ((w56.setCell ⟨go44, ((ji41) : Int).toNat, none⟩ (.int .i64 ji45)).setCell ⟨go44, ((ji45) : Int).toNat, none⟩ (.int .i64 ji41)) = w59 at n0_ n1_ n2_ n3_ n4_ n5_ n6_ ⊢
                 have HO_5 := n0_; have HO_269000 := n1_; have HO_269001 := n2_; have BK253 := n3_; have BK254 := n4_; have BK268 := n5_; have HB := n6_; clear n0_ n1_ n2_ n3_ n4_ n5_ n6_
                 replace HO_5 := A0_ (rD HO_5.out)
                 replace HO_269000 := A0_ (rD HO_269000.out)
                 replace HO_269001 := A0_ (rD HO_269001.out)
                 replace BK253 := A0_ (kD BK253.out)
                 replace BK254 := A0_ (kD BK254.out)
                 replace BK268 := A0_ (kD BK268.out)
                 replace HB := A0_ (bD HB.out)
                 have p271 : 0 ≤ (x35_2 : Int) := zd
                 have q271 : x35_2 < (l0_0.length : Int) := zd
                 obtain ⟨ad271, e271, hx271_0⟩ := tI HR0_0.out x35_2 p271 q271; have hw271_0 := hx271_0
                 cases e271
                 try replace hx271_0 := (HB.out.cell (wL w _ hx271_0)).trans hx271_0
                 replace p271 := eq_true p271; replace q271 := eq_true q271
                 have p52 : 0 ≤ ((ji41) : Int) := zd
                 have q52 : ((ji41) : Int) < ((x269000_2.length : Int) : Int) := zd
                 obtain ⟨go52, co52, eo52, gb52, gl52, cl52, HG52⟩ := Kd.R_form HO_269000.out (by omega)
                 (first | cases eo52 | (injection eo52 with ea_ en_ ec_; (first | subst ea_ | (injection ea_ with ea_; subst ea_)); subst ec_; clear en_))
                 have GB52 := A0_ gb52; have GG52 := A0_ HG52; clear gb52 gl52 HG52
                 obtain ⟨hx52_0, hf52_0⟩ := Kd.R_celln 0 HO_269000.out ((ji41) : Int) p52 q52
                 replace p52 := eq_true p52; replace q52 := eq_true q52
                 have HP61 := Kd.R_putn HO_269000.out ((ji41) : Int) (wrap64 (2 * (rd l0_0 x35_2)))
                 rw [← Ny272.out] at HP61
                 have HQ61 := A0_ HP61; clear HP61
                 refine start_ (n := 12) (S := fun w' => w'.cell? ⟨gb268, 0, none⟩ = some (.slice (some ⟨go52, 0, none⟩) x269000_2.length co52) ∧ w'.cell? ⟨gb268, 1, none⟩ = some (.slice (some ⟨go44, 0, none⟩) x269001_2.length co44) ∧ w'.cell? ⟨gb253, 0, none⟩ = some (.slice (some ad271) l0_0.length c0_0) ∧ w'.cell? ⟨gb253, 1, none⟩ = some (.slice A0_1 l0_1.length c0_1) ∧ w'.cell? (ad271.add (x35_2).toNat) = some (.int .i64 (rd l0_0 x35_2))) (ds := [11]) #[false, false, false, false, false, false, false, false, false, false, false, false] (by kernel_rfl) rfl rfl ⟨(kC BK268.out 0).trans rfl, (kC BK268.out 1).trans rfl, (kC BK253.out 0).trans rfl, (kC BK253.out 1).trans rfl, ((HB.out.cell (wL w _ hw271_0)).trans hw271_0)⟩ (fun hHeld => ?_); refine with_tabW impl_TutteQuad.tab10 impl_TutteQuad.bits10 (fun HT_ HW_ => ?_)
                 generalize w59.drew = w60 at HO_5 HO_269000 HO_269001 BK253 BK254 BK268 HB GG52 HQ58 HQ61 hf52_0 hx271_0 hx52_0 hHeld ⊢
                 refine zP 0 (some 54) #[true,false,false,false,false,false,false,false,false,false,false,false] ?_
                 refine zP 2 (some 56) #[true,false,true,false,false,false,false,false,false,false,false,false] ?_
                 refine zP 3 (some 57) #[true,false,true,true,false,false,false,false,false,false,false,false] ?_
                 refine zP 4 (some 58) #[true,false,true,true,true,false,false,false,false,false,false,false] ?_
                 refine zP 6 (some 60) #[true,false,true,true,true,false,true,false,false,false,false,false] ?_
                 refine take_ (i := 1) (N := some 55) (v := ?_) (a' := ?_) #[true, true, true, true, true, false, true, false, false, false, false, false] rfl rfl (take_ofW HT_.out HW_.out (by kernel_rfl)) (fun _ _ _ h => h) (Or.inl ⟨by rfl, ?_⟩) hHeld ?_ ?_
                 rotate_left
                 ·rintro w' ⟨s0, s1, s2, s3, s4⟩
                  go_simp
                  with_reducible rfl
                 rotate_left
                 ·simp only [Act.put, List.setIfInBounds_toArray, List.set_cons_zero, List.set_cons_succ, i64_w, i32_w]
                  rfl
                 refine take_ (i := 5) (N := some 59) (v := ?_) (a' := ?_) #[true, true, true, true, true, true, true, false, false, false, false, false] rfl rfl (take_ofW HT_.out HW_.out (by kernel_rfl)) (fun _ _ _ h => h) (Or.inl ⟨by rfl, ?_⟩) hHeld ?_ ?_
                 rotate_left
                 ·rintro w' ⟨s0, s1, s2, s3, s4⟩
                  go_simp
                  with_reducible rfl
                 rotate_left
                 ·simp only [Act.put, List.setIfInBounds_toArray, List.set_cons_zero, List.set_cons_succ, i64_w, i32_w]
                  rfl
                 refine zP 7 (some 61) #[true,true,true,true,true,true,true,true,false,false,false,false] ?_
                 refine take_ (i := 8) (N := some 62) (v := ?_) (a' := ?_) #[true, true, true, true, true, true, true, true, true, false, false, false] rfl rfl (take_ofW HT_.out HW_.out (by kernel_rfl)) (fun _ _ _ h => h) (Or.inl ⟨by rfl, ?_⟩) hHeld ?_ ?_
                 rotate_left
                 ·rintro w' ⟨s0, s1, s2, s3, s4⟩
                  go_simp
                  with_reducible rfl
                 rotate_left
                 ·simp only [Act.put, List.setIfInBounds_toArray, List.set_cons_zero, List.set_cons_succ, i64_w, i32_w]
                  rfl
                 refine zP 9 (some 63) #[true,true,true,true,true,true,true,true,true,true,false,false] ?_
                 refine zP 10 (some 64) #[true,true,true,true,true,true,true,true,true,true,true,false] ?_
                 refine last_ (i := 11) (N := none) #[true, true, true, true, true, true, true, true, true, true, true, true] rfl rfl (one_of HT_.out (by kernel_rfl)) (by decide) (fun K hK => ?_)
                 refine skip_ (w1 := ?_) (by rfl) rfl ?_ ?_
                 rotate_left
                 ·go_simp
                  rfl
                 refine hK.out _ _ ?_
                 clear hK K
                 refine done_ (done_of HT_.out (by kernel_rfl)) ?_
                 try go_wp2
                 have n0_ : Aside0 (Kd.R (Kd.int .i64) 3 (w60.setCell ⟨go52, ((ji41) : Int).toNat, none⟩ (.int .i64 (wrap64 (2 * (rd l0_0 x35_2))))) w.heap.size (fun k_ => some k_ ≠ (.slice (some ⟨go52, 0, none⟩) x269000_2.length co52 : Value).ownBlock ∧ some k_ ≠ (.slice (some ⟨go44, 0, none⟩) x269001_2.length co44 : Value).ownBlock) v260 x5_2) := ⟨by (with_reducible repeat (first | apply rA | apply rN | apply rD)); exact rM (rF (p := ⟨go52, ((ji41) : Int).toNat, none⟩) (rM HO_5.out (fun k_ hk => (⟨hk, fun e_ => hk.1 (by rw [e_]; rfl)⟩ : _ ∧ k_ ≠ go52))) (fun _ hk => hk.2) (.int .i64 (wrap64 (2 * (rd l0_0 x35_2))))) (fun _ hk => ⟨hk.1.1, hk.1.2⟩)⟩
                 have n1_ : Aside0 (Kd.R (Kd.int .i64) 3 (w60.setCell ⟨go52, ((ji41) : Int).toNat, none⟩ (.int .i64 (wrap64 (2 * (rd l0_0 x35_2))))) w.heap.size (fun k_ => some k_ ≠ (v260 : Value).ownBlock ∧ some k_ ≠ (.slice (some ⟨go44, 0, none⟩) x269001_2.length co44 : Value).ownBlock) (.slice (some ⟨go52, 0, none⟩) x269000_2.length co52) y272) := ⟨zR_ HQ61⟩
                 have n2_ : Aside0 (Kd.R (Kd.int .i64) 3 (w60.setCell ⟨go52, ((ji41) : Int).toNat, none⟩ (.int .i64 (wrap64 (2 * (rd l0_0 x35_2))))) w.heap.size (fun k_ => some k_ ≠ (v260 : Value).ownBlock ∧ some k_ ≠ (.slice (some ⟨go52, 0, none⟩) x269000_2.length co52 : Value).ownBlock) (.slice (some ⟨go44, 0, none⟩) x269001_2.length co44) y270) := ⟨by (with_reducible repeat (first | apply rA | apply rN | apply rD)); exact rM (rF (p := ⟨go52, ((ji41) : Int).toNat, none⟩) (rM HO_269001.out (fun k_ hk => (⟨hk, fun e_ => hk.2 (by rw [e_]; rfl)⟩ : _ ∧ k_ ≠ go52))) (fun _ hk => hk.2) (.int .i64 (wrap64 (2 * (rd l0_0 x35_2))))) (fun _ hk => ⟨hk.1.1, hk.1.2⟩)⟩
                 have n3_ : Aside0 ((w60.setCell ⟨go52, ((ji41) : Int).toNat, none⟩ (.int .i64 (wrap64 (2 * (rd l0_0 x35_2))))).heap[gb253]? = some (.cells #[.slice (some ad271) l0_0.length c0_0, .slice A0_1 l0_1.length c0_1] 25 (0, 0))) := ⟨by (with_reducible repeat (first | refine kN ?_ _ | refine kD ?_ | refine kA ?_ _)); refine blk_far ?_ (by have h_ := Kd.R_ne HO_269000.out BK253.out (by decide); intro e_; exact h_ (by rw [e_]; rfl)) _; (with_reducible repeat (first | refine kN ?_ _ | refine kD ?_ | refine kA ?_ _)); exact BK253.out⟩
                 have n4_ : Aside0 ((w60.setCell ⟨go52, ((ji41) : Int).toNat, none⟩ (.int .i64 (wrap64 (2 * (rd l0_0 x35_2))))).heap[gb254]? = some (.cells #[.slice none 0 0, .slice none 0 0] 25 (0, 0))) := ⟨by (with_reducible repeat (first | refine kN ?_ _ | refine kD ?_ | refine kA ?_ _)); refine blk_far ?_ (by have h_ := Kd.R_ne HO_269000.out BK254.out (by decide); intro e_; exact h_ (by rw [e_]; rfl)) _; (with_reducible repeat (first | refine kN ?_ _ | refine kD ?_ | refine kA ?_ _)); exact BK254.out⟩
                 have n5_ : Aside0 ((w60.setCell ⟨go52, ((ji41) : Int).toNat, none⟩ (.int .i64 (wrap64 (2 * (rd l0_0 x35_2))))).heap[gb268]? = some (.cells #[.slice (some ⟨go52, 0, none⟩) x269000_2.length co52, .slice (some ⟨go44, 0, none⟩) x269001_2.length co44] 25 (0, 0))) := ⟨by (with_reducible repeat (first | refine kN ?_ _ | refine kD ?_ | refine kA ?_ _)); refine blk_far ?_ (by have h_ := Kd.R_ne HO_269000.out BK268.out (by decide); intro e_; exact h_ (by rw [e_]; rfl)) _; (with_reducible repeat (first | refine kN ?_ _ | refine kD ?_ | refine kA ?_ _)); exact BK268.out⟩
                 have n6_ : Aside0 (Below w.heap.size w (w60.setCell ⟨go52, ((ji41) : Int).toNat, none⟩ (.int .i64 (wrap64 (2 * (rd l0_0 x35_2)))))) := ⟨by repeat (first | (with_reducible first | exact HB.out | apply bA | apply bN | apply bD | refine bS ?_ GB52.out | refine bS ?_ GE253.out | refine bS ?_ GE254.out | refine bS ?_ GE268.out) | exact HB.out)⟩
                 (try clear HO_5); (try clear HO_269000); (try clear HO_269001); (try clear BK253); (try clear BK254); (try clear BK268); (try clear HB)
                 generalize (w60.setCell ⟨go52, ((ji41) : Int).toNat, none⟩ (.int .i64 (wrap64 (2 * (rd l0_0 x35_2))))) = w62 at n0_ n1_ n2_ n3_ n4_ n5_ n6_ ⊢
                 have HO_5 := n0_; have HO_269000 := n1_; have HO_269001 := n2_; have BK253 := n3_; have BK254 := n4_; have BK268 := n5_; have HB := n6_; clear n0_ n1_ n2_ n3_ n4_ n5_ n6_
                 replace HO_5 := A0_ (rD HO_5.out)
                 replace HO_269000 := A0_ (rD HO_269000.out)
                 replace HO_269001 := A0_ (rD HO_269001.out)
                 replace BK253 := A0_ (kD BK253.out)
                 replace BK254 := A0_ (kD BK254.out)
                 replace BK268 := A0_ (kD BK268.out)
                 replace HB := A0_ (bD HB.out)
                 obtain ⟨Ao64, co64, eo64⟩ := rS HO_5.out
                 (first | subst eo64 | (injection eo64 with f1_ f2_ f3_; have f4_ := f1_.symm; have f5_ := f3_.symm; clear f1_ f2_ f3_; subst f4_; subst f5_))
                 have p273 : 0 ≤ (x35_2 : Int) := zd
                 have q273 : x35_2 < (x5_2.length : Int) := zd
                 obtain ⟨ad273, e273, hx273_0⟩ := tI (rR HO_5.out).2.2 x35_2 p273 q273
                 cases e273
                 replace p273 := eq_true p273; replace q273 := eq_true q273
                 have p55 : 0 ≤ ((ji45) : Int) := zd
                 have q55 : ((ji45) : Int) < ((x269000_2.length : Int) : Int) := zd
                 obtain ⟨hx55_0, hf55_0⟩ := Kd.R_celln 0 HO_269000.out ((ji45) : Int) p55 q55
                 replace p55 := eq_true p55; replace q55 := eq_true q55
                 have HP65 := Kd.R_putn HO_269000.out ((ji45) : Int) (wrap64 ((wrap64 (2 * (rd x5_2 x35_2))) + 1))
                 rw [← Ny274.out] at HP65
                 have HQ65 := A0_ HP65; clear HP65
                 refine start_ (n := 13) (S := fun w' => w'.cell? ⟨gb268, 0, none⟩ = some (.slice (some ⟨go52, 0, none⟩) x269000_2.length co52) ∧ w'.cell? ⟨gb268, 1, none⟩ = some (.slice (some ⟨go44, 0, none⟩) x269001_2.length co44) ∧ w'.cell? (ad273.add (x35_2).toNat) = some (.int .i64 (rd x5_2 x35_2))) (ds := [12]) #[false, false, false, false, false, false, false, false, false, false, false, false, false] (by kernel_rfl) rfl rfl ⟨(kC BK268.out 0).trans rfl, (kC BK268.out 1).trans rfl, hx273_0⟩ (fun hHeld => ?_); refine with_tabW impl_TutteQuad.tab11 impl_TutteQuad.bits11 (fun HT_ HW_ => ?_)
                 generalize w62.drew = w63 at HO_5 HO_269000 HO_269001 BK253 BK254 BK268 HB HQ61 HQ65 hf55_0 hx273_0 hx55_0 hHeld ⊢
                 refine zP 0 (some 65) #[true,false,false,false,false,false,false,false,false,false,false,false,false] ?_
                 refine zP 2 (some 67) #[true,false,true,false,false,false,false,false,false,false,false,false,false] ?_
                 refine zP 3 (some 68) #[true,false,true,true,false,false,false,false,false,false,false,false,false] ?_
                 refine zP 4 (some 69) #[true,false,true,true,true,false,false,false,false,false,false,false,false] ?_
                 refine zP 5 (some 70) #[true,false,true,true,true,true,false,false,false,false,false,false,false] ?_
                 refine zP 6 (some 71) #[true,false,true,true,true,true,true,false,false,false,false,false,false] ?_
                 refine zP 7 (some 72) #[true,false,true,true,true,true,true,true,false,false,false,false,false] ?_
                 refine take_ (i := 1) (N := some 66) (v := ?_) (a' := ?_) #[true, true, true, true, true, true, true, true, false, false, false, false, false] rfl rfl (take_ofW HT_.out HW_.out (by kernel_rfl)) (fun _ _ _ h => h) (Or.inl ⟨by rfl, ?_⟩) hHeld ?_ ?_
                 rotate_left
                 ·rintro w' ⟨s0, s1, s2⟩
                  go_simp
                  with_reducible rfl
                 rotate_left
                 ·simp only [Act.put, List.setIfInBounds_toArray, List.set_cons_zero, List.set_cons_succ, i64_w, i32_w]
                  rfl
                 refine take_ (i := 8) (N := some 73) (v := ?_) (a' := ?_) #[true, true, true, true, true, true, true, true, true, false, false, false, false] rfl rfl (take_ofW HT_.out HW_.out (by kernel_rfl)) (fun _ _ _ h => h) (Or.inl ⟨by rfl, ?_⟩) hHeld ?_ ?_
                 rotate_left
                 ·rintro w' ⟨s0, s1, s2⟩
                  go_simp
                  with_reducible rfl
                 rotate_left
                 ·simp only [Act.put, List.setIfInBounds_toArray, List.set_cons_zero, List.set_cons_succ, i64_w, i32_w]
                  rfl
                 refine zP 9 (some 74) #[true,true,true,true,true,true,true,true,true,true,false,false,false] ?_
                 refine zP 10 (some 75) #[true,true,true,true,true,true,true,true,true,true,true,false,false] ?_
                 refine zP 11 (some 76) #[true,true,true,true,true,true,true,true,true,true,true,true,false] ?_
                 refine last_ (i := 12) (N := none) #[true, true, true, true, true, true, true, true, true, true, true, true, true] rfl rfl (one_of HT_.out (by kernel_rfl)) (by decide) (fun K hK => ?_)
                 refine skip_ (w1 := ?_) (by rfl) rfl ?_ ?_
                 rotate_left
                 ·go_simp
                  rfl
                 refine hK.out _ _ ?_
                 clear hK K
                 refine done_ (done_of HT_.out (by kernel_rfl)) ?_
                 try go_wp2
                 go_roundg k2
                 case measure => have := HJ1.out; have := HK2.out; omega
                 case rel => exact ⟨(x5_2), (wrap64 (x35_2 + 1)), (y274), (y270), (.slice (some ⟨go52, 0, none⟩) x269000_2.length co52), (.slice (some ⟨go44, 0, none⟩) x269001_2.length co44), zt, H', ⟨by have := HJ1.out; have := HK2.out; omega⟩, ⟨by (with_reducible repeat (first | apply rA | apply rN | apply rD)); exact rM (rF (p := ⟨go52, ((ji45) : Int).toNat, none⟩) (rM HO_5.out (fun k_ hk => (⟨hk, fun e_ => hk.1 (by rw [e_]; rfl)⟩ : _ ∧ k_ ≠ go52))) (fun _ hk => hk.2) (.int .i64 (wrap64 ((wrap64 (2 * (rd x5_2 x35_2))) + 1)))) (fun _ hk => ⟨hk.1.1, hk.1.2⟩)⟩, ⟨zR_ HQ65⟩, ⟨by (with_reducible repeat (first | apply rA | apply rN | apply rD)); exact rM (rF (p := ⟨go52, ((ji45) : Int).toNat, none⟩) (rM HO_269001.out (fun k_ hk => (⟨hk, fun e_ => hk.2 (by rw [e_]; rfl)⟩ : _ ∧ k_ ≠ go52))) (fun _ hk => hk.2) (.int .i64 (wrap64 ((wrap64 (2 * (rd x5_2 x35_2))) + 1)))) (fun _ hk => ⟨hk.1.1, hk.1.2⟩)⟩, ⟨by (with_reducible repeat (first | refine kN ?_ _ | refine kD ?_ | refine kA ?_ _)); refine blk_far ?_ (by have h_ := Kd.R_ne HO_269000.out BK253.out (by decide); intro e_; exact h_ (by rw [e_]; rfl)) _; (with_reducible repeat (first | refine kN ?_ _ | refine kD ?_ | refine kA ?_ _)); exact BK253.out⟩, ⟨by (with_reducible repeat (first | refine kN ?_ _ | refine kD ?_ | refine kA ?_ _)); refine blk_far ?_ (by have h_ := Kd.R_ne HO_269000.out BK254.out (by decide); intro e_; exact h_ (by rw [e_]; rfl)) _; (with_reducible repeat (first | refine kN ?_ _ | refine kD ?_ | refine kA ?_ _)); exact BK254.out⟩, ⟨by (with_reducible repeat (first | refine kN ?_ _ | refine kD ?_ | refine kA ?_ _)); refine blk_far ?_ (by have h_ := Kd.R_ne HO_269000.out BK268.out (by decide); intro e_; exact h_ (by rw [e_]; rfl)) _; (with_reducible repeat (first | refine kN ?_ _ | refine kD ?_ | refine kA ?_ _)); exact BK268.out⟩, ⟨by repeat (first | (with_reducible first | exact HB.out | apply bA | apply bN | apply bD | refine bS ?_ GB52.out | refine bS ?_ GE253.out | refine bS ?_ GE254.out | refine bS ?_ GE268.out) | exact HB.out)⟩⟩
                rw [if_neg c54] at H
                exact absurd H (by simp)
               rw [if_neg c53] at H
               exact absurd H (by simp)
              rw [if_neg c51] at H
              exact absurd H (by simp)
             rw [if_neg c50] at H
             exact absurd H (by simp)
            rw [if_neg c49] at H
            exact absurd H (by simp)
           rw [if_neg c47] at H
           exact absurd H (by simp)
          rw [if_neg c46] at H
          exact absurd H (by simp)
         rw [if_neg c43] at H
         exact absurd H (by simp)
        rw [if_neg c42] at H
        exact absurd H (by simp)
       rw [if_neg c40] at H; have c40b0 := dF c40; clear c40; simp only [Option.some.injEq, Prod.mk.injEq] at H; obtain ⟨rfl, rfl, rfl⟩ := H; have hnb66 := NB268_253.out; have hnc66 := NB253_268.out; have hnb67 := NB268_254.out; have hnc67 := NB254_268.out
       have hcz68_0 : wr.cell? ⟨gb268, 0, none⟩ = some (u269000) := (kC BK268.out 0).trans rfl
       have hcz68_1 : wr.cell? ⟨gb268, 1, none⟩ = some (u269001) := (kC BK268.out 1).trans rfl
       have hfz68_0 := kF BK268.out 0; have hfz68_1 := kF BK268.out 1; obtain ⟨Ao69, co69, eo69⟩ := rS HO_269000.out; subst eo69; have hnb70 := NB254_253.out; have hnc70 := NB253_254.out; have hcz71_0 := zc0 BK254; have hcz71_1 := zc1 BK254; have hfz71_0 := kF BK254.out 0; have hfz71_1 := kF BK254.out 1; obtain ⟨Ao72, co72, eo72⟩ := rS HO_269001.out; subst eo72
       go_wp2
       refine bodyPost_ret (results_ct rfl _ _ gb254 25 #[.slice Ao69 x269000_2.length co69, .slice Ao72 x269001_2.length co72] (0, 0) _ rfl (by (with_reducible repeat (first | refine kN ?_ _ | refine kD ?_ | refine kA ?_ _)); refine blk_put (cs := #[.slice Ao69 x269000_2.length co69, .slice none 0 0]) ?_ 1 _ rfl; (with_reducible repeat (first | refine kN ?_ _ | refine kD ?_ | refine kA ?_ _)); refine blk_put (cs := #[.slice none 0 0, .slice none 0 0]) ?_ 0 _ rfl; (with_reducible repeat (first | refine kN ?_ _ | refine kD ?_ | refine kA ?_ _)); exact BK254.out) Tryz.underlying25 rfl (by kernel_rfl)) rfl ?_
       exact ⟨_, _, by first | rfl | (simp [errW_none, errW_some] <;> rfl) | (simp only [← hji19]; first | rfl | (simp [errW_none, errW_some] <;> rfl)) | (simp [*, errW_none, errW_some] <;> rfl), by (with_reducible repeat (first | apply rA | apply rN | apply rD)); exact rM (rF (p := ⟨gb254, 1, none⟩) (rF (p := ⟨gb254, 0, none⟩) (rY HO_269000.out BK254.out (by decide)) (fun _ hk => hk.2) (.slice Ao69 x269000_2.length co69)) (fun _ hk => hk.2) (.slice Ao72 x269001_2.length co72)) (fun _ hk => hk.1.2), by (with_reducible repeat (first | apply rA | apply rN | apply rD)); exact rM (rF (p := ⟨gb254, 1, none⟩) (rF (p := ⟨gb254, 0, none⟩) (rY HO_269001.out BK254.out (by decide)) (fun _ hk => hk.2) (.slice Ao69 x269000_2.length co69)) (fun _ hk => hk.2) (.slice Ao72 x269001_2.length co72)) (fun _ hk => hk.1.2), zB_ HB⟩
    rw [if_neg c21] at H
    exact absurd H (by simp)
   rw [if_neg c20] at H
   exact absurd H (by simp)

end Go.Proofs.YtjebcgbmlbemcaaGreatDoor.PFnExecuteTutte
