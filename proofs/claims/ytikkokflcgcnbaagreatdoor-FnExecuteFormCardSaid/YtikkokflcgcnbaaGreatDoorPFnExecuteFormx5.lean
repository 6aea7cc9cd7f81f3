-- Made by a program of this session (wip/tools) out of the loaded program; not trusted: Lean checks it.
import Derived.Test.YtikkokflcgcnbaaGreatDoorXE
import Derived.Test.YtikkokflcgcnbaaGreatDoorXC
import Derived.Test.YtikkokflcgcnbaaGreatDoorPFnExecuteFormx0
import Derived.Test.YtikkokflcgcnbaaGreatDoorPFnExecuteFormx1
import Derived.Test.YtikkokflcgcnbaaGreatDoorPFnExecuteFormx2
import Derived.Test.YtikkokflcgcnbaaGreatDoorPFnExecuteFormx3
import Derived.Test.YtikkokflcgcnbaaGreatDoorPFnExecuteFormx4
-- packed
namespace Go.Proofs.YtikkokflcgcnbaaGreatDoor.PFnExecuteForm
open Go.RowKit Go.Proofs.YtikkokflcgcnbaaGreatDoorW.PrintWords Go.Proofs.YtikkokflcgcnbaaGreatDoorW.PrintLast Go.Proofs.YtikkokflcgcnbaaGreatDoorW.PrintMore
attribute [local go_sem] max2_int min2_int max_two min_two max_three min_three max_four min_four   -- for this text's walks alone
set_option linter.unusedVariables false
set_option linter.unusedSimpArgs false

/-! ### impl_MapForm: function 25 -/
def impl_MapForm.j0 : Nat → Int → Bool → List Int → List Int → Option (List Int × List Int × Bool)
  | 0, _, _, _, _ => none
  | k + 1, x1, x19, x191000, x191001 => if x19 = true then (some (([] : List Int), ([] : List Int), false)) else ((impl_namesFrom.f k x191000 x191001 x1).bind fun t193 => ((impl_renamed.f k x191000 x191001 t193).bind fun bt196 => (some (bt196.1, bt196.2, true))))
def impl_MapForm.f (k : Nat) (l0_0 : List Int) (l0_1 : List Int) (a1 : Int) : Option (List Int × List Int × Bool) := (impl_MapValid.f k l0_0 l0_1).bind fun t192 => (if t192 = true then (if a1 < 0 then (impl_MapForm.j0 k a1 true l0_0 l0_1) else (impl_MapForm.j0 k a1 (decide (a1 ≥ (l0_0.length : Int))) l0_0 l0_1)) else (impl_MapForm.j0 k a1 true l0_0 l0_1))
set_option maxHeartbeats 8000000 in
set_option maxRecDepth 100000 in
theorem impl_MapForm.calls (k : Nat) (A0_0 : Option Addr) (c0_0 : Nat) (l0_0 : List Int) (A0_1 : Option Addr) (c0_1 : Nat) (l0_1 : List Int) (a1 : Int) (r1 : List Int) (r2 : List Int) (r3 : Bool) (w : World) (hr0_0 : Kd.C (Kd.int .i64) w A0_0 l0_0.length l0_0) (hc0_0 : l0_0.length ≤ c0_0) (hr0_1 : Kd.C (Kd.int .i64) w A0_1 l0_1.length l0_1) (hc0_1 : l0_1.length ≤ c0_1) (h : impl_MapForm.f k l0_0 l0_1 a1 = some (r1, r2, r3)) :
    Calls Tryz.prog 25 #[.agg #[.slice A0_0 l0_0.length c0_0, .slice A0_1 l0_1.length c0_1], .int .i64 a1] w fun e w' => ∃ v0_ v1_ : Value, e = .returned (.tuple #[.agg #[v0_, v1_], .bool r3]) ∧ Kd.R (Kd.int .i64) 3 w' w.heap.size (fun k_ => some k_ ≠ (v1_ : Value).ownBlock) v0_ r1 ∧ Kd.R (Kd.int .i64) 3 w' w.heap.size (fun k_ => some k_ ≠ (v0_ : Value).ownBlock) v1_ r2 ∧ Below w.heap.size w w' := by
 have hu25 := Tryz.underlying25; have HR0_0 := A0_ hr0_0; have HC0_0 := A0_ hc0_0; clear hr0_0 hc0_0; have HR0_1 := A0_ hr0_1; have HC0_1 := A0_ hc0_1; clear hr0_1 hc0_1
 have HB := A0_ (Below.refl w.heap.size w)
 have H : ((impl_MapValid.f k l0_0 l0_1).bind fun t192 => (if t192 = true then (if a1 < 0 then (impl_MapForm.j0 k a1 true l0_0 l0_1) else (impl_MapForm.j0 k a1 (decide (a1 ≥ (l0_0.length : Int))) l0_0 l0_1)) else (impl_MapForm.j0 k a1 true l0_0 l0_1))) = some (r1, r2, r3) := h
 clear h; have HC3 := A0_ H; clear H
 go_enter Tryz.func25, Tryz.ntmps25
 go_upto_region 1 with (first | ((with_reducible refine gD (N := 2) rfl ?_); refine zX (N := 2) (cs := #[.slice A0_0 l0_0.length c0_0, .slice A0_1 l0_1.length c0_1]) (t := 25) ?_; intro gb190 hg w4 hbox hb; have BK190 := A0_ (hbox); have GW190 := zG hg HB; have GE190 := zG hg HB; replace HB := zB HB hb; clear hb hbox hg) | ((with_reducible refine gD (N := 4) rfl ?_); refine zX (N := 4) (cs := #[.slice none 0 0, .slice none 0 0]) (t := 25) ?_; intro gb191 hg w5 hbox hb; have BK191 := A0_ (hbox); have GW191 := zG hg HB; have GE191 := zG hg HB; replace HB := zB HB hb; have NB190_191 := zL hg BK190; have NB191_190 := zM hg BK190; replace BK190 := zK BK190 hb; clear hb hbox hg))
 (try simp only [Act.put, List.setIfInBounds_toArray, List.set_cons_zero, List.set_cons_succ])
 go_cut [19] (fun v19 wc => ∃ (kq : Nat) (x19_2 : Bool), v19 = .bool x19_2 ∧ Aside0 (impl_MapForm.j0 kq a1 x19_2 l0_0 l0_1 = some (r1, r2, r3)) ∧ Aside0 (kq ≤ k) ∧ Aside0 (wc.heap[gb190]? = some (.cells #[(.slice A0_0 l0_0.length c0_0), (.slice A0_1 l0_1.length c0_1)] 25 (0, 0))) ∧ Aside0 (wc.heap[gb191]? = some (.cells #[(.slice none 0 0), (.slice none 0 0)] 25 (0, 0))) ∧ Aside0 (Below w.heap.size w wc))
 case first =>
  have H := HC3.out; clear HC3; obtain ⟨t192, A6, H⟩ := zbind H
  by_cases c7 : t192 = true
  ·subst c7
   have H1 : (if a1 < 0 then (impl_MapForm.j0 k a1 true l0_0 l0_1) else (impl_MapForm.j0 k a1 (decide (a1 ≥ (l0_0.length : Int))) l0_0 l0_1)) = some (r1, r2, r3) := by rw [if_pos rfl] at H; exact H
   clear H; have H := H1; clear H1
   by_cases c8 : a1 < 0
   ·rw [if_pos c8] at H
    have c8b0 := dT c8; clear c8
    (first | rw [c8b0] | (simp only [i64_w, i32_w]; rw [c8b0]) | skip)
    have H' := A0_ H; clear H; have hnb9 := NB190_191.out; have hnc9 := NB191_190.out; have hcz10_0 := zc0 BK190; have hcz10_1 := zc1 BK190; have hfz10_0 := kF BK190.out 0; have hfz10_1 := kF BK190.out 1
    go_wp2_with (first | ((with_reducible refine gC (f := 29) rfl ?_); refine zJ (some 7) Tryz.func29 #[.agg #[.slice A0_0 l0_0.length c0_0, .slice A0_1 l0_1.length c0_1]] ?_; (with_reducible refine (impl_MapValid.calls k (fun k_ => k_ < w.heap.size) _ _ l0_0 (fun k_ => k_ < w.heap.size) _ _ l0_1 true _ ?side1 ?side2 A6.out).mono ?_); (case side1 => exact Kd.V_mk HC0_0.out (Kd.F_below (Kd.C_F (Kd.heap_int .i64) HR0_0.out) (zB_ HB))); (case side2 => exact Kd.V_mk HC0_1.out (Kd.F_below (Kd.C_F (Kd.heap_int .i64) HR0_1.out) (zB_ HB))); rintro e w11 ⟨rfl, hb⟩; refine ⟨_, rfl, ?_⟩; replace BK190 := zK BK190 hb; replace BK191 := zK BK191 hb; replace HB := zB HB hb; (try clear hb)))
    go_meet
    case rel => exact ⟨_, (true), zt, H', zo, ⟨zK_ BK190⟩, ⟨zK_ BK191⟩, ⟨zB_ HB⟩⟩
   rw [if_neg c8] at H; have c8b0 := dF c8; clear c8
   (first | rw [c8b0] | (simp only [i64_w, i32_w]; rw [c8b0]) | skip)
   have H' := A0_ H; clear H; have hnb12 := NB190_191.out; have hnc12 := NB191_190.out; have hcz13_0 := zc0 BK190; have hcz13_1 := zc1 BK190; have hfz13_0 := kF BK190.out 0; have hfz13_1 := kF BK190.out 1
   go_wp2_with (first | ((with_reducible refine gC (f := 29) rfl ?_); refine zJ (some 7) Tryz.func29 #[.agg #[.slice A0_0 l0_0.length c0_0, .slice A0_1 l0_1.length c0_1]] ?_; (with_reducible refine (impl_MapValid.calls k (fun k_ => k_ < w.heap.size) _ _ l0_0 (fun k_ => k_ < w.heap.size) _ _ l0_1 true _ ?side1 ?side2 A6.out).mono ?_); (case side1 => exact Kd.V_mk HC0_0.out (Kd.F_below (Kd.C_F (Kd.heap_int .i64) HR0_0.out) (zB_ HB))); (case side2 => exact Kd.V_mk HC0_1.out (Kd.F_below (Kd.C_F (Kd.heap_int .i64) HR0_1.out) (zB_ HB))); rintro e w14 ⟨rfl, hb⟩; refine ⟨_, rfl, ?_⟩; replace BK190 := zK BK190 hb; replace BK191 := zK BK191 hb; replace HB := zB HB hb; (try clear hb); have hcz15_0 := zc0 BK190; have hcz15_1 := zc1 BK190; have hfz15_0 := kF BK190.out 0; have hfz15_1 := kF BK190.out 1))
   go_meet
   case rel => exact ⟨_, (decide (a1 ≥ (l0_0.length : Int))), zt, H', zo, ⟨zK_ BK190⟩, ⟨zK_ BK191⟩, ⟨zB_ HB⟩⟩
  replace c7 := Bool.eq_false_iff.mpr c7; subst c7
  have H1 : (impl_MapForm.j0 k a1 true l0_0 l0_1) = some (r1, r2, r3) := by rw [if_neg (show ¬ (false = true) by decide)] at H; exact H
  clear H; have H := H1; clear H1; have H' := A0_ H; clear H; have hnb16 := NB190_191.out; have hnc16 := NB191_190.out; have hcz17_0 := zc0 BK190; have hcz17_1 := zc1 BK190; have hfz17_0 := kF BK190.out 0; have hfz17_1 := kF BK190.out 1
  go_wp2_with (first | ((with_reducible refine gC (f := 29) rfl ?_); refine zJ (some 7) Tryz.func29 #[.agg #[.slice A0_0 l0_0.length c0_0, .slice A0_1 l0_1.length c0_1]] ?_; (with_reducible refine (impl_MapValid.calls k (fun k_ => k_ < w.heap.size) _ _ l0_0 (fun k_ => k_ < w.heap.size) _ _ l0_1 false _ ?side1 ?side2 A6.out).mono ?_); (case side1 => exact Kd.V_mk HC0_0.out (Kd.F_below (Kd.C_F (Kd.heap_int .i64) HR0_0.out) (zB_ HB))); (case side2 => exact Kd.V_mk HC0_1.out (Kd.F_below (Kd.C_F (Kd.heap_int .i64) HR0_1.out) (zB_ HB))); rintro e w18 ⟨rfl, hb⟩; refine ⟨_, rfl, ?_⟩; replace BK190 := zK BK190 hb; replace BK191 := zK BK191 hb; replace HB := zB HB hb; (try clear hb)))
  go_meet
  case rel => exact ⟨_, (true), zt, H', zo, ⟨zK_ BK190⟩, ⟨zK_ BK191⟩, ⟨zB_ HB⟩⟩
 case rest =>
  clear HC3; (try clear c1); (try clear c2); (try clear p2); (try clear c7); (try clear c8); (try clear c8b0); (try clear c9); (try clear c12); (try clear c16); (try clear hcz10_0); (try clear hcz10_1); (try clear hcz13_0); (try clear hcz13_1); (try clear hcz15_0); (try clear hcz15_1); (try clear hcz17_0); (try clear hcz17_1); (try clear hfz10_0); (try clear hfz10_1); (try clear hfz13_0); (try clear hfz13_1); (try clear hfz15_0); (try clear hfz15_1); (try clear hfz17_0); (try clear hfz17_1); obtain ⟨kq, x19_2, rfl, HA, HJ2, BK190, BK191, HB⟩ := hcut
  cases kq with
  | zero => exact absurd HA.out (by simp [impl_MapForm.j0])
  | succ kj2 =>
   have H := HA.out; clear HA; simp only [impl_MapForm.j0] at H
   by_cases c19 : x19_2 = true
   ·subst c19
    have H1 : (some (([] : List Int), ([] : List Int), false)) = some (r1, r2, r3) := by rw [if_pos rfl] at H; exact H
    clear H; have H := H1; clear H1; simp only [Option.some.injEq, Prod.mk.injEq] at H; obtain ⟨rfl, rfl, rfl⟩ := H; have hnb20 := NB191_190.out; have hnc20 := NB190_191.out; have hcz21_0 := zc0 BK191; have hcz21_1 := zc1 BK191; have hfz21_0 := kF BK191.out 0; have hfz21_1 := kF BK191.out 1
    go_wp2
    refine bodyPost_ret (results_ct rfl _ _ gb191 25 #[.slice none 0 0, .slice none 0 0] (0, 0) _ rfl (by (with_reducible repeat (first | refine kN ?_ _ | refine kD ?_ | refine kA ?_ _)); refine blk_put (cs := #[.slice none 0 0, .slice none 0 0]) ?_ 1 _ rfl; (with_reducible repeat (first | refine kN ?_ _ | refine kD ?_ | refine kA ?_ _)); refine blk_put (cs := #[.slice none 0 0, .slice none 0 0]) ?_ 0 _ rfl; (with_reducible repeat (first | refine kN ?_ _ | refine kD ?_ | refine kA ?_ _)); exact BK191.out) Tryz.underlying25 rfl (by kernel_rfl)) rfl ?_
    exact ⟨_, _, by first | rfl | (simp [*] <;> rfl), by first | exact Kd.R_nil _ _ _ _ _ | exact Kd.N_nil _ _ _ _ _ | exact Kd.V_nil _ _ _ _ _ | exact Kd.Q_nil _ _ _ _ _ | exact Kd.S_nil _ _ _ _ _, by first | exact Kd.R_nil _ _ _ _ _ | exact Kd.N_nil _ _ _ _ _ | exact Kd.V_nil _ _ _ _ _ | exact Kd.Q_nil _ _ _ _ _ | exact Kd.S_nil _ _ _ _ _, zB_ HB⟩
   replace c19 := Bool.eq_false_iff.mpr c19; subst c19
   have H1 : ((impl_namesFrom.f kj2 l0_0 l0_1 a1).bind fun t193 => ((impl_renamed.f kj2 l0_0 l0_1 t193).bind fun bt196 => (some (bt196.1, bt196.2, true)))) = some (r1, r2, r3) := by rw [if_neg (show ¬ (false = true) by decide)] at H; exact H
   clear H; have H := H1; clear H1; obtain ⟨t193, A22, H⟩ := zbind H; obtain ⟨⟨t196, t199⟩, A23, H⟩ := zbind H; dsimp only at H; simp only [Option.some.injEq, Prod.mk.injEq] at H; obtain ⟨rfl, rfl, rfl⟩ := H
   try go_wp2
   replace BK190 := A0_ (kD BK190.out)
   replace BK191 := A0_ (kD BK191.out)
   replace HB := A0_ (bD HB.out)
   refine start_ (n := 7) (S := fun w' => w'.cell? ⟨gb190, 0, none⟩ = some (.slice A0_0 l0_0.length c0_0) ∧ w'.cell? ⟨gb190, 1, none⟩ = some (.slice A0_1 l0_1.length c0_1)) (ds := []) #[false, false, false, false, false, false, false] (by kernel_rfl) rfl rfl ⟨(kC BK190.out 0).trans rfl, (kC BK190.out 1).trans rfl⟩ (fun hHeld => ?_)
   generalize wc.drew = w24 at BK190 BK191 HB hHeld ⊢
   refine pure_ (i := 2) (N := some 23) (v := ?_) (a' := ?_) #[false, false, true, false, false, false, false] rfl rfl (by kernel_rfl) (fun _ _ _ h => h) (Or.inl ⟨by rfl, ?_⟩) ?_ ?_
   rotate_left
   ·intro w'
    go_simp
    with_reducible rfl
   rotate_left
   ·simp only [Act.put, List.setIfInBounds_toArray, List.set_cons_zero, List.set_cons_succ, i64_w, i32_w]
    rfl
   refine take_ (i := 0) (N := some 21) (v := ?_) (a' := ?_) #[true, false, true, false, false, false, false] rfl rfl (by kernel_rfl) (fun _ _ _ h => h) (Or.inl ⟨by rfl, ?_⟩) hHeld ?_ ?_
   rotate_left
   ·rintro w' ⟨s0, s1⟩
    go_simp
    with_reducible rfl
   rotate_left
   ·simp only [Act.put, List.setIfInBounds_toArray, List.set_cons_zero, List.set_cons_succ, i64_w, i32_w]
    rfl
   refine take_ (i := 1) (N := some 22) (v := ?_) (a' := ?_) #[true, true, true, false, false, false, false] rfl rfl (by kernel_rfl) (fun _ _ _ h => h) (Or.inl ⟨by rfl, ?_⟩) hHeld ?_ ?_
   rotate_left
   ·rintro w' ⟨s0, s1⟩
    go_simp
    with_reducible rfl
   rotate_left
   ·simp only [Act.put, List.setIfInBounds_toArray, List.set_cons_zero, List.set_cons_succ, i64_w, i32_w]
    rfl
   refine one_ (i := 3) (N := some 24) #[true, true, true, true, false, false, false] rfl rfl (by kernel_rfl) (by decide) (fun K hK => ?_)
   refine goes_ Tryz.func54 (by kernel_rfl) rfl #[.agg #[.slice A0_0 l0_0.length c0_0, .slice A0_1 l0_1.length c0_1], .int .i64 a1] (by rfl) rfl rfl (by (try simp only [List.map_toArray, List.map_cons, List.map_nil]); first | done | rfl | (simp only [List.length_drop, List.length_take]; rfl)) ?_
   with_reducible refine (impl_namesFrom.calls kj2 _ _ l0_0 _ _ l0_1 a1 t193 _ ?side1 ?side2 ?side3 ?side4 A22.out).mono ?_
   (case side1 => exact zC HR0_0 HB)
   (case side2 => exact HC0_0.out)
   (case side3 => exact zC HR0_1 HB)
   (case side4 => exact HC0_1.out)
   rintro e w25 ⟨v194, rfl, ho0, hb⟩
   refine ⟨_, rfl, ?_⟩
   have HO195 := A0_ (rL ho0 (bZ (zB_ HB)))
   replace BK190 := zK BK190 hb; replace BK191 := zK BK191 hb; replace HB := zB HB hb; (try clear hb); (try clear hb2); (try clear hk); (try clear hi); (try clear ho0); obtain ⟨Ao26, co26, eo26⟩ := rS HO195.out
   (first | subst eo26 | (injection eo26 with f1_ f2_ f3_; have f4_ := f1_.symm; have f5_ := f3_.symm; clear f1_ f2_ f3_; subst f4_; subst f5_))
   refine hK.out _ _ ⟨(kC BK190.out 0).trans rfl, (kC BK190.out 1).trans rfl⟩ (fun hHeld => ?_)
   clear hK K
   refine norm_ (a' := ?_) ?_ ?_
   rotate_left
   ·show Act.put _ (some 24) _ = _
    simp only [Act.put, List.setIfInBounds_toArray, List.set_cons_zero, List.set_cons_succ, i64_w, i32_w]
    rfl
   refine one_ (i := 4) (N := some 25) #[true, true, true, true, true, false, false] rfl rfl (by kernel_rfl) (by decide) (fun K hK => ?_)
   refine goes_ Tryz.func53 (by kernel_rfl) rfl #[.agg #[.slice A0_0 l0_0.length c0_0, .slice A0_1 l0_1.length c0_1], .slice Ao26 t193.length co26] (by rfl) rfl rfl (by (try simp only [List.map_toArray, List.map_cons, List.map_nil]); first | done | rfl | (simp only [List.length_drop, List.length_take]; rfl)) ?_
   with_reducible refine (impl_renamed.calls kj2 _ _ l0_0 _ _ l0_1 _ _ t193 t196 t199 _ ?side1 ?side2 ?side3 ?side4 ?side5 ?side6 A23.out).mono ?_
   (case side1 => exact zC HR0_0 HB)
   (case side2 => exact HC0_0.out)
   (case side3 => exact zC HR0_1 HB)
   (case side4 => exact HC0_1.out)
   (case side5 => exact zD HO195)
   (case side6 => exact (rR HO195.out).2.1)
   rintro e w27 ⟨v197, v200, rfl, ho0, ho1, hb⟩
   refine ⟨_, rfl, ?_⟩
   have HO198 := A0_ (rL (Kd.R_new' ho0 (rX (zR_ HO195))) (bZ (zB_ HB)))
   have HO201 := A0_ (rL (Kd.R_new' ho1 (rX (zR_ HO195))) (bZ (zB_ HB)))
   replace HO195 := A0_ (rM (rT (rT (rO (zR_ HO195) hb) (Kd.R_base ho0)) (Kd.R_base ho1)) (fun _ h_ => h_.1))
   replace BK190 := zK BK190 hb; replace BK191 := zK BK191 hb; replace HB := zB HB hb; (try clear hb); (try clear hb2); (try clear hk); (try clear hi); (try clear ho0); (try clear ho1); obtain ⟨Ao28, co28, eo28⟩ := rS HO198.out
   (first | subst eo28 | (injection eo28 with f1_ f2_ f3_; have f4_ := f1_.symm; have f5_ := f3_.symm; clear f1_ f2_ f3_; subst f4_; subst f5_))
   obtain ⟨Ao30, co30, eo30⟩ := rS HO201.out
   (first | subst eo30 | (injection eo30 with f1_ f2_ f3_; have f4_ := f1_.symm; have f5_ := f3_.symm; clear f1_ f2_ f3_; subst f4_; subst f5_))
   refine hK.out _ _ ⟨(kC BK190.out 0).trans rfl, (kC BK190.out 1).trans rfl⟩ (fun hHeld => ?_)
   clear hK K
   refine norm_ (a' := ?_) ?_ ?_
   rotate_left
   ·show Act.put _ (some 25) _ = _
    simp only [Act.put, List.setIfInBounds_toArray, List.set_cons_zero, List.set_cons_succ, i64_w, i32_w]
    rfl
   refine one_ (i := 5) (N := none) #[true, true, true, true, true, true, false] rfl rfl (by kernel_rfl) (by decide) (fun K hK => ?_)
   have hs29 : w27.cell? ⟨gb191, 0, none⟩ = some (.slice none 0 0) := (kC BK191.out 0).trans rfl
   have hfs29 := kF BK191.out 0; have hns29_0 := NB190_191.out; have hms29_0 := NB191_190.out
   have hs31 : w27.cell? ⟨gb191, 1, none⟩ = some (.slice none 0 0) := (kC BK191.out 1).trans rfl
   have hfs31 := kF BK191.out 1; have hns31_0 := NB190_191.out; have hms31_0 := NB191_190.out
   refine skip_ (w1 := ?_) (by rfl) rfl ?_ ?_
   rotate_left
   ·go_simp
    rfl
   refine hK.out _ _ ⟨((cell_far (p := ⟨gb191, _, none⟩) NB190_191.out _).trans (((cell_far (p := ⟨gb191, _, none⟩) NB190_191.out _).trans (hHeld.1)))), ((cell_far (p := ⟨gb191, _, none⟩) NB190_191.out _).trans (((cell_far (p := ⟨gb191, _, none⟩) NB190_191.out _).trans (hHeld.2))))⟩ (fun hHeld => ?_)
   clear hK K
   refine pure_ (i := 6) (N := some 5) (v := ?_) (a' := ?_) #[true, true, true, true, true, true, true] rfl rfl (by kernel_rfl) (fun _ _ _ h => h) (Or.inl ⟨by rfl, ?_⟩) ?_ ?_
   rotate_left
   ·intro w'
    go_simp
    with_reducible rfl
   rotate_left
   ·simp only [Act.put, List.setIfInBounds_toArray, List.set_cons_zero, List.set_cons_succ, i64_w, i32_w]
    rfl
   refine done_ (by kernel_rfl) ?_
   try go_wp2
   refine bodyPost_ret (results_ct rfl _ _ gb191 25 #[.slice Ao28 t196.length co28, .slice Ao30 t199.length co30] (0, 0) _ rfl (by (with_reducible repeat (first | refine kN ?_ _ | refine kD ?_ | refine kA ?_ _)); refine blk_put (cs := #[.slice Ao28 t196.length co28, .slice none 0 0]) ?_ 1 _ rfl; (with_reducible repeat (first | refine kN ?_ _ | refine kD ?_ | refine kA ?_ _)); refine blk_put (cs := #[.slice none 0 0, .slice none 0 0]) ?_ 0 _ rfl; (with_reducible repeat (first | refine kN ?_ _ | refine kD ?_ | refine kA ?_ _)); exact BK191.out) Tryz.underlying25 rfl (by kernel_rfl)) rfl ?_
   exact ⟨_, _, by first | rfl | (simp [*] <;> rfl), by (with_reducible repeat (first | apply rA | apply rN | apply rD)); exact rM (rF (p := ⟨gb191, 1, none⟩) (rF (p := ⟨gb191, 0, none⟩) (rY HO198.out BK191.out (by decide)) (fun _ hk => hk.2) (.slice Ao28 t196.length co28)) (fun _ hk => hk.2) (.slice Ao30 t199.length co30)) (fun _ hk => hk.1.1), by (with_reducible repeat (first | apply rA | apply rN | apply rD)); exact rM (rF (p := ⟨gb191, 1, none⟩) (rF (p := ⟨gb191, 0, none⟩) (rY HO201.out BK191.out (by decide)) (fun _ hk => hk.2) (.slice Ao28 t196.length co28)) (fun _ hk => hk.2) (.slice Ao30 t199.length co30)) (fun _ hk => hk.1.1), zB_ HB⟩

/-! ### impl_cyclesOf: function 49 -/
mutual
def impl_cyclesOf.l0 : Nat → List Int → List (List Int) → List Bool → Int → Int → Option ((List (List Int)))
  | 0, _, _, _, _, _ => none
  | k + 1, x0, x3, x4, x13, x14 => if x14 < x13 then (impl_cyclesOf.l1 k x0 x3 x4 (([] : List Int)) x14 x13 x14) else (some x3)
def impl_cyclesOf.l1 : Nat → List Int → List (List Int) → List Bool → List Int → Int → Int → Int → Option ((List (List Int)))
  | 0, _, _, _, _, _, _, _ => none
  | k + 1, x0, x3, x4, x6, x7, x13, x14 => if 0 ≤ x7 then (if x7 < (x4.length : Int) then (if rdOf false x4 x7 = true then (if (x6.length : Int) > 0 then (if x3.length < 5864062014805 then (impl_cyclesOf.l0 k x0 (x3 ++ [x6]) x4 x13 (wrap64 (x14 + 1))) else (none)) else (impl_cyclesOf.l0 k x0 x3 x4 x13 (wrap64 (x14 + 1)))) else (if x6.length < 17592186044416 then (if x7 < (x0.length : Int) then (impl_cyclesOf.l1 k x0 x3 (x4.set (x7 : Int).toNat true) (x6 ++ [x7]) (rd x0 x7) x13 x14) else (none)) else (none))) else (none)) else (none)
end
def impl_cyclesOf.f (k : Nat) (l0 : List Int) : Option ((List (List Int))) := if 0 ≤ (l0.length : Int) then (if ((l0.length : Int) : Int).toNat ≤ 281474976710656 then (impl_cyclesOf.l0 k l0 (([] : List (List Int))) (List.replicate ((l0.length : Int) : Int).toNat false) (l0.length : Int) 0) else (none)) else (none)
set_option maxHeartbeats 8000000 in
set_option maxRecDepth 100000 in
theorem impl_cyclesOf.calls (k : Nat) (A0 : Option Addr) (c0 : Nat) (l0 : List Int) (r : List (List Int)) (w : World) (hr0 : Kd.C (Kd.int .i64) w A0 l0.length l0) (hc0 : l0.length ≤ c0) (h : impl_cyclesOf.f k l0 = some r) :
    Calls Tryz.prog 49 #[.slice A0 l0.length c0] w fun e w' => ∃ v0_ : Value, e = .returned (v0_) ∧ Kd.S (Kd.slice 3 (Kd.int .i64)) 23 w' w.heap.size (fun _ => True) v0_ r ∧ Below w.heap.size w w' := by
 have HR0 := A0_ hr0; have HC0 := A0_ hc0; clear hr0 hc0
 have HB := A0_ (Below.refl w.heap.size w)
 have H : (if 0 ≤ (l0.length : Int) then (if ((l0.length : Int) : Int).toNat ≤ 281474976710656 then (impl_cyclesOf.l0 k l0 (([] : List (List Int))) (List.replicate ((l0.length : Int) : Int).toNat false) (l0.length : Int) 0) else (none)) else (none)) = some r := h
 clear h
 obtain ⟨y202, hy202⟩ : ∃ y_ : List (List Int), y_ = (([] : List (List Int))) := ⟨_, rfl⟩
 replace H : (if 0 ≤ (l0.length : Int) then (if ((l0.length : Int) : Int).toNat ≤ 281474976710656 then (impl_cyclesOf.l0 k l0 y202 (List.replicate ((l0.length : Int) : Int).toNat false) (l0.length : Int) 0) else (none)) else (none)) = some r := zH hy202 H
 have Ny202 := A0_ hy202; clear hy202
 by_cases c2 : 0 ≤ (l0.length : Int)
 ·rw [if_pos c2] at H
  have c2b0 := eq_true c2; have c2b1 := dT c2; clear c2
  by_cases c3 : ((l0.length : Int) : Int).toNat ≤ 281474976710656
  ·rw [if_pos c3] at H
   have c3b0 := eq_true c3; have c3b1 := dT c3; clear c3
   obtain ⟨y205, hy205⟩ : ∃ y_ : List Bool, y_ = (List.replicate ((l0.length : Int) : Int).toNat false) := ⟨_, rfl⟩
   replace H : (impl_cyclesOf.l0 k l0 y202 y205 (l0.length : Int) 0) = some r := zH hy205 H
   have Ny205 := A0_ hy205; clear hy205; have H' := A0_ H; clear H
   go_enter Tryz.func49, Tryz.ntmps49
   go_wp2_with (first | ((with_reducible refine gD (N := 8) rfl ?_); refine Kd.S_lit (Kd.slice 3 (Kd.int .i64)) _ 23 ?hg (N := 8) ?hd (xs := ([] : List (List Int))) (inner := []) (ok := fun _ => True) (okp := fun _ => True) ?hr ?hp (fun _ hk => hk) trivial (Below.refl _ _) (Nat.le_refl _) (by simp) ?_; (case hd => rfl); (case hg => rfl); (case hr => first | (go_simp; done) | (go_simp; rfl)); (case hp => exact (Reps.none _ _)); intro v203 w4 ho5 hb hg_ hnew_; clear hg_ hnew_; (first | rw [← Ny202.out] at ho5 | (simp only [Int.reduceToNat] at ho5; rw [← Ny202.out] at ho5)); have HO204 := A0_ (Kd.S_lower ho5 (bZ (zB_ HB))); replace HB := zB HB hb; clear hb ho5) | ((with_reducible refine gD (N := 11) rfl ?_); refine Kd.R_make Kd.bool _ 4 rfl (N := 11) rfl 100 _ _ rfl (l0.length : Int) rfl rfl Tryz.underlying100 (.bool false) 1 info4 rfl (by decide) (by omega) false (ok := fun _ => True) (okp := fun _ => True) rfl (fun _ hk => hk) trivial (zd) (Nat.le_trans (Nat.mul_le_mul_right _ (zd : (l0.length : Int).toNat ≤ 281474976710656)) (by omega)) (Below.refl _ _) (Nat.le_refl _) ?_; intro v206 w6 ho7 hb hg_ hnew_; clear hg_ hnew_; (first | rw [← Ny205.out] at ho7 | (simp only [Int.reduceToNat] at ho7; rw [← Ny205.out] at ho7)); replace HO204 := zS HO204 hb; have HO207 := A0_ (rL ho7 (bZ (zB_ HB))); replace HB := zB HB hb; clear hb ho7))
   go_loopg [3, 14] k (fun kq v3 v14 w' => ∃ (x3_1 : List (List Int)) (x4_1 : List Bool) (x14_1 : Int), v14 = .int .i64 x14_1 ∧ Aside0 (impl_cyclesOf.l0 kq l0 x3_1 x4_1 (l0.length : Int) x14_1 = some r) ∧ Aside0 (kq ≤ k) ∧ Aside0 (Kd.S (Kd.slice 3 (Kd.int .i64)) 23 w' w.heap.size (fun _ => True) v3 x3_1) ∧ Aside0 (Kd.R Kd.bool 4 w' w.heap.size (fun _ => True) v206 x4_1) ∧ Aside0 (Below w.heap.size w w'))
   case atStart => exact ⟨(y202), (y205), (0), zt, H', ⟨Nat.le_refl _⟩, ⟨zS_ HO204⟩, ⟨zR_ HO207⟩, ⟨zB_ HB⟩⟩
   case round =>
    clear H'; (try clear c2); (try clear c2b0); (try clear c2b1); (try clear p2); (try clear c3); (try clear c3b0); (try clear c3b1); (try clear c4); obtain ⟨x3_1, x4_1, x14_1, rfl, HA, HK1, HO_3, HO_4, HB⟩ := hrel
    cases gk with
    | zero => exact absurd HA.out (by simp [impl_cyclesOf.l0])
    | succ k1 =>
     have H := HA.out; clear HA; simp only [impl_cyclesOf.l0] at H
     by_cases c8 : x14_1 < (l0.length : Int)
     ·rw [if_pos c8] at H
      have c8b0 := dT c8; clear c8
      obtain ⟨y208, hy208⟩ : ∃ y_ : List Int, y_ = (([] : List Int)) := ⟨_, rfl⟩
      replace H : (impl_cyclesOf.l1 k1 l0 x3_1 x4_1 y208 x14_1 (l0.length : Int) x14_1) = some r := zH hy208 H
      have Ny208 := A0_ hy208; clear hy208; have H' := A0_ H; clear H
      go_wp2_with (first | ((with_reducible refine gD (N := 17) rfl ?_); refine Kd.R_lit (Kd.int .i64) _ 3 ?hg (N := 17) ?hd (xs := ([] : List Int)) (inner := []) (ok := fun _ => True) (okp := fun _ => True) ?hr ?hp (fun _ hk => hk) trivial (Below.refl _ _) (Nat.le_refl _) (by simp) ?_; (case hd => rfl); (case hg => rfl); (case hr => first | (go_simp; done) | (go_simp; rfl)); (case hp => exact (Reps.none _ _)); intro v209 w9 ho10 hb hg_ hnew_; clear hg_ hnew_; (first | rw [← Ny208.out] at ho10 | (simp only [Int.reduceToNat] at ho10; rw [← Ny208.out] at ho10)); replace HO_3 := A0_ (Kd.S_elder' (zS_ HO_3) (Kd.R_base ho10) hb); replace HO_4 := zR HO_4 hb; have HO210 := A0_ (rL ho10 (bZ (zB_ HB))); replace HB := zB HB hb; clear hb ho10))
      go_loopg [6, 7] k1 (fun kq v6 v7 w' => ∃ (x4_2 : List Bool) (x6_2 : List Int) (x7_2 : Int), v7 = .int .i64 x7_2 ∧ Aside0 (impl_cyclesOf.l1 kq l0 x3_1 x4_2 x6_2 x7_2 (l0.length : Int) x14_1 = some r) ∧ Aside0 (kq ≤ k1) ∧ Aside0 (Kd.S (Kd.slice 3 (Kd.int .i64)) 23 w' w.heap.size (fun k_ => some k_ ≠ (v6 : Value).ownBlock) u3 x3_1) ∧ Aside0 (Kd.R Kd.bool 4 w' w.heap.size (fun _ => True) v206 x4_2) ∧ Aside0 (Kd.R (Kd.int .i64) 3 w' w.heap.size (fun _ => True) v6 x6_2) ∧ Aside0 (Below w.heap.size w w'))
      case atStart => exact ⟨(x4_1), (y208), (x14_1), zt, H', ⟨Nat.le_refl _⟩, ⟨zmS HO_3 (fun _ hk => hk.2)⟩, ⟨zR_ HO_4⟩, ⟨zR_ HO210⟩, ⟨zB_ HB⟩⟩
      case round =>
       clear H'; (try clear c2); (try clear c2b0); (try clear c2b1); (try clear p2); (try clear c3); (try clear c3b0); (try clear c3b1); (try clear c4); (try clear c8); (try clear c8b0); (try clear p2); obtain ⟨x4_2, x6_2, x7_2, rfl, HA, HK2, HO_3, HO_4, HO_6, HB⟩ := hrel
       cases gk with
       | zero => exact absurd HA.out (by simp [impl_cyclesOf.l1])
       | succ k2 =>
        have H := HA.out; clear HA; simp only [impl_cyclesOf.l1] at H
        by_cases c11 : 0 ≤ x7_2
        ·rw [if_pos c11] at H
         have c11b0 := dT c11; clear c11
         by_cases c12 : x7_2 < (x4_2.length : Int)
         ·rw [if_pos c12] at H
          have c12b0 := dT c12; clear c12
          obtain ⟨bq13, hbq13⟩ : ∃ b_ : Bool, b_ = (rdOf false x4_2 x7_2) := ⟨_, rfl⟩
          replace H : (if bq13 = true then (if (x6_2.length : Int) > 0 then (if x3_1.length < 5864062014805 then (impl_cyclesOf.l0 k2 l0 (x3_1 ++ [x6_2]) x4_2 (l0.length : Int) (wrap64 (x14_1 + 1))) else (none)) else (impl_cyclesOf.l0 k2 l0 x3_1 x4_2 (l0.length : Int) (wrap64 (x14_1 + 1)))) else (if x6_2.length < 17592186044416 then (if x7_2 < (l0.length : Int) then (impl_cyclesOf.l1 k2 l0 x3_1 (x4_2.set (x7_2 : Int).toNat true) (x6_2 ++ [x7_2]) (rd l0 x7_2) (l0.length : Int) x14_1) else (none)) else (none))) = some r := by rw [← hbq13] at H; exact H
          have Nbq13 := A0_ hbq13; clear hbq13
          by_cases c14 : bq13 = true
          ·subst c14
           rw [if_pos rfl] at H
           by_cases c15 : (x6_2.length : Int) > 0
           ·rw [if_pos c15] at H
            have c15b0 : decide (0 < (x6_2.length : Int)) = true := dT c15
            have c15b1 : decide (0 < x6_2.length) = true := dT (by omega)
            clear c15
            by_cases c16 : x3_1.length < 5864062014805
            ·rw [if_pos c16] at H
             have LMc16 := A0_ c16; clear c16
             obtain ⟨y212, hy212⟩ : ∃ y_ : List (List Int), y_ = (x3_1 ++ [x6_2]) := ⟨_, rfl⟩
             replace H : (impl_cyclesOf.l0 k2 l0 y212 x4_2 (l0.length : Int) (wrap64 (x14_1 + 1))) = some r := zH hy212 H
             have Ny212 := A0_ hy212; clear hy212; have H' := A0_ H; clear H; obtain ⟨Ao17, co17, eo17⟩ := rS HO_4.out; subst eo17
             have p211 : 0 ≤ (x7_2 : Int) := zd
             have q211 : x7_2 < (x4_2.length : Int) := zd
             obtain ⟨ad211, e211, hx211_0⟩ := Kd.at_bool (rR HO_4.out).2.2 x7_2 p211 q211
             (try rw [← Nbq13.out] at hx211_0)
             cases e211
             replace p211 := eq_true p211; replace q211 := eq_true q211; obtain ⟨Ao18, co18, eo18⟩ := rS HO_6.out; subst eo18
             go_wp2_with (first | ((with_reducible refine gB (b := .append) (xs := #[.tmp 38, .tmp 40]) rfl ?_); at_builtin; refine Kd.S_append (Kd.slice 3 (Kd.int .i64)) (w0 := w) w.heap.size rfl (.tmp 38) (.tmp 40) 65 23 (.slice none 0 0) 24 rfl Tryz.underlying65 info23 rfl (by decide) (by omega) u3 x3_1 x6_2 [.slice Ao18 x6_2.length co18] (fun _ => True) (fun k_ => some k_ = (.slice Ao18 x6_2.length co18 : Value).ownBlock) rfl rfl ?aP (fun k_ hk_ => ((rM (ok' := fun k_ => ((fun _ => True)) k_ ∧ some k_ ≠ (u3 : Value).ownBlock) (Kd.R_apart' (HO_6.out) (Kd.S_typed HO_3.out) (by decide)) (fun k_ hk => ⟨trivial, hk.2⟩))).1 k_ hk_.symm) ?aF ?aO ?aB ?aS ?aL ?_; (case aP => exact Kd.M_row (rM (Kd.R_tight rfl (rM (ok' := fun k_ => ((fun _ => True)) k_ ∧ some k_ ≠ (u3 : Value).ownBlock) (Kd.R_apart' (HO_6.out) (Kd.S_typed HO_3.out) (by decide)) (fun k_ hk => ⟨trivial, hk.2⟩))) (fun _ h_ => h_))); (case aB => exact (zB_ HB)); (case aF => exact (fun _ _ => trivial)); (case aO => exact (zmS HO_3 (fun k_ hk => ⟨trivial, fun e_ => hk e_⟩))); (case aS => exact (bZ (zB_ HB))); (case aL => have := LMc16.out; omega); intro v213 w19 ho hb hg hat; rw [← Ny212.out] at ho; replace HO_4 := A0_ (Kd.R_over' (zR_ HO_4) (Kd.S_typed (zS_ HO_3)) (by decide) hg); replace HB := A0_ (hb); have HO214 := A0_ (ho); clear HO_3 HO_6 ho hb hg hat))
             go_roundg k2
             case measure => have := HK1.out; have := HK2.out; omega
             case rel => exact ⟨(y212), (x4_2), (wrap64 (x14_1 + 1)), zt, H', ⟨by have := HK1.out; have := HK2.out; omega⟩, ⟨zS_ HO214⟩, ⟨zR_ HO_4⟩, ⟨zB_ HB⟩⟩
            rw [if_neg c16] at H
            exact absurd H (by simp)
           rw [if_neg c15] at H
           have c15b0 : decide (0 < (x6_2.length : Int)) = false := dF c15
           have c15b1 : decide (0 < x6_2.length) = false := dF (by omega)
           clear c15; have H' := A0_ H; clear H; obtain ⟨Ao20, co20, eo20⟩ := rS HO_4.out; subst eo20
           have p211 : 0 ≤ (x7_2 : Int) := zd
           have q211 : x7_2 < (x4_2.length : Int) := zd
           obtain ⟨ad211, e211, hx211_0⟩ := Kd.at_bool (rR HO_4.out).2.2 x7_2 p211 q211
           (try rw [← Nbq13.out] at hx211_0)
           cases e211
           replace p211 := eq_true p211; replace q211 := eq_true q211; obtain ⟨Ao21, co21, eo21⟩ := rS HO_6.out; subst eo21
           go_wp2
           go_roundg k2
           case measure => have := HK1.out; have := HK2.out; omega
           case rel => exact ⟨(x3_1), (x4_2), (wrap64 (x14_1 + 1)), zt, H', ⟨by have := HK1.out; have := HK2.out; omega⟩, ⟨zmS HO_3 (fun _ hk => trivial)⟩, ⟨zR_ HO_4⟩, ⟨zB_ HB⟩⟩
          replace c14 := Bool.eq_false_iff.mpr c14; subst c14
          rw [if_neg (show ¬ (false = true) by decide)] at H
          obtain ⟨y215, hy215⟩ : ∃ y_ : List Bool, y_ = (x4_2.set (x7_2 : Int).toNat true) := ⟨_, rfl⟩
          replace H : (if x6_2.length < 17592186044416 then (if x7_2 < (l0.length : Int) then (impl_cyclesOf.l1 k2 l0 x3_1 y215 (x6_2 ++ [x7_2]) (rd l0 x7_2) (l0.length : Int) x14_1) else (none)) else (none)) = some r := zH hy215 H
          have Ny215 := A0_ hy215; clear hy215
          by_cases c23 : x6_2.length < 17592186044416
          ·rw [if_pos c23] at H
           have LMc23 := A0_ c23; clear c23
           obtain ⟨y216, hy216⟩ : ∃ y_ : List Int, y_ = (x6_2 ++ [x7_2]) := ⟨_, rfl⟩
           replace H : (if x7_2 < (l0.length : Int) then (impl_cyclesOf.l1 k2 l0 x3_1 y215 y216 (rd l0 x7_2) (l0.length : Int) x14_1) else (none)) = some r := zH hy216 H
           have Ny216 := A0_ hy216; clear hy216
           by_cases c24 : x7_2 < (l0.length : Int)
           ·rw [if_pos c24] at H
            have c24b0 := dT c24; clear c24; have H' := A0_ H; clear H; obtain ⟨Ao25, co25, eo25⟩ := rS HO_4.out; subst eo25
            have p211 : 0 ≤ (x7_2 : Int) := zd
            have q211 : x7_2 < (x4_2.length : Int) := zd
            obtain ⟨ad211, e211, hx211_0⟩ := Kd.at_bool (rR HO_4.out).2.2 x7_2 p211 q211
            (try rw [← Nbq13.out] at hx211_0)
            cases e211
            replace p211 := eq_true p211; replace q211 := eq_true q211
            have p22 : 0 ≤ (x7_2 : Int) := zd
            have q22 : (x7_2 : Int) < ((x4_2.length : Int) : Int) := zd
            obtain ⟨go22, co22, eo22, gb22, gl22, cl22, HG22⟩ := Kd.R_form HO_4.out (by omega)
            (first | cases eo22 | (injection eo22 with ea_ en_ ec_; (first | subst ea_ | (injection ea_ with ea_; subst ea_)); subst ec_; clear en_))
            have GB22 := A0_ gb22; have GG22 := A0_ HG22; clear gb22 gl22 HG22
            (first | simp only [add_plain] at hx211_0 | skip)
            obtain ⟨hx22_0, hf22_0⟩ := Kd.R_celln false HO_4.out (x7_2 : Int) p22 q22
            replace p22 := eq_true p22; replace q22 := eq_true q22
            have HP26 := Kd.R_putg HO_4.out (x7_2 : Int) true
            go_wp2_with (first | ((with_reducible refine gS (t := 4) (p := 30) rfl ?_); refine store_event (t := 4) (p := 30) (v := ?vo_w27) (w1 := (wr.setCell ⟨go22, (x7_2 : Int).toNat, none⟩ (.bool true))) ?hg ?ho ?hn ?hr ?_; (case ho => rfl); (case hg => rfl); (case hn => rfl); (case hr => first | (go_simp; done) | (go_simp; rfl)); intro w27 hw; have hg : wr.grownBy w27 (some go22) := (by rw [hw]; exact HP26.2); have hp_ : Kd.R Kd.bool 4 w27 w.heap.size (fun _ => True) (.slice (some ⟨go22, 0, none⟩) x4_2.length co25) y215 := (by rw [hw, Ny215.out]; exact HP26.1); clear HP26; replace HO_3 := A0_ (Kd.S_over' (v := (.slice (some ⟨go22, 0, none⟩) x4_2.length co25)) (zS_ HO_3) (Kd.R_typed HO_4.out) (by decide) hg); replace HO_6 := A0_ (Kd.R_over' (v := (.slice (some ⟨go22, 0, none⟩) x4_2.length co25)) (zR_ HO_6) (Kd.R_typed HO_4.out) (by decide) hg); replace HO_4 := A0_ (hp_); replace HB := A0_ ((by rw [hw]; exact bS (HB.out) GB22.out : Below w.heap.size w w27)); clear hg hw hp_) | ((with_reducible refine gB (b := .append) (xs := #[.tmp 31, .tmp 33]) rfl ?_); at_builtin; refine Kd.R_append (Kd.int .i64) (w0 := w) w.heap.size rfl (.tmp 31) (.tmp 33) 23 3 (.int .i64 0) 8 rfl Tryz.underlying23 info3 rfl (by decide) (by omega) u6 x6_2 x7_2 [.int .i64 x7_2] (fun _ => True) (fun _ => False) rfl rfl ?aP (fun _ hk => hk.elim) ?aF ?aO ?aB ?aS ?aL ?_; (case aP => exact rfl); (case aB => exact (zB_ HB)); (case aF => exact (fun _ _ => trivial)); (case aO => exact (zR_ HO_6)); (case aS => exact (bZ (zB_ HB))); (case aL => have := LMc23.out; omega); intro v217 w28 ho hb hg hat; rw [← Ny216.out] at ho; replace HO_3 := A0_ (Kd.S_after (ok := (fun _ => True)) (zmS HO_3 (fun _ hk => ⟨trivial, hk⟩)) hg hat); replace HO_4 := A0_ (Kd.R_over' (zR_ HO_4) (Kd.R_typed (zR_ HO_6)) (by decide) hg); replace HB := A0_ (hb); have HO218 := A0_ (ho); clear HO_6 ho hb hg hat; have p219 : 0 ≤ (x7_2 : Int) := zd; have q219 : x7_2 < (l0.length : Int) := zd; obtain ⟨ad219, e219, hx219_0⟩ := tI HR0.out x7_2 p219 q219; cases e219; try replace hx219_0 := (HB.out.cell (wL w _ hx219_0)).trans hx219_0; replace p219 := eq_true p219; replace q219 := eq_true q219))
            go_roundg k2
            case measure => have := HK1.out; have := HK2.out; omega
            case rel => exact ⟨(y215), (y216), (rd l0 x7_2), zt, H', ⟨by have := HK1.out; have := HK2.out; omega⟩, ⟨zmS HO_3 (fun _ hk => hk.2)⟩, ⟨zR_ HO_4⟩, ⟨zR_ HO218⟩, ⟨zB_ HB⟩⟩
           rw [if_neg c24] at H
           exact absurd H (by simp)
          rw [if_neg c23] at H
          exact absurd H (by simp)
         rw [if_neg c12] at H
         exact absurd H (by simp)
        rw [if_neg c11] at H
        exact absurd H (by simp)
     rw [if_neg c8] at H; have c8b0 := dF c8; clear c8; obtain rfl := sI H
     go_wp2
     go_ret
     exact ⟨_, by first | rfl | (simp [*] <;> rfl), zS_ HO_3, zB_ HB⟩
  rw [if_neg c3] at H
  exact absurd H (by simp)
 rw [if_neg c2] at H
 exact absurd H (by simp)

/-! ### impl_PermText: function 40 -/
def impl_PermText.sg (i : Int) : ByteArray := if i = 0 then ⟨#[40]⟩ else ⟨#[44]⟩
def impl_PermText.dg (n : Int) : ByteArray := ⟨(Lib.decDigits n.toNat).toArray⟩
def impl_PermText.inner : Int → List Int → Option ByteArray
  | _, [] => some ⟨#[]⟩
  | i, n :: c => if 0 ≤ n ∧ n < 100 then (impl_PermText.inner (i + 1) c).bind fun t => some ((impl_PermText.sg i ++ impl_PermText.dg n) ++ t) else none
def impl_PermText.outer : List (List Int) → Option ByteArray
  | [] => some ⟨#[]⟩
  | c :: cs => if c.length < 2 then impl_PermText.outer cs else (impl_PermText.inner 0 c).bind fun t => (impl_PermText.outer cs).bind fun u => some (t ++ (⟨#[41]⟩ ++ u))
def impl_PermText.f (k : Nat) (l0 : List Int) : Option ByteArray := (impl_PermValid.f l0).bind fun ok => (if ok = true then (impl_cyclesOf.f k l0).bind fun cs => (impl_PermText.outer cs).bind fun t => (if t.size ≤ 100000 ∧ cs.length ≤ 1000 ∧ ∀ c ∈ cs, c.length ≤ 1000 then (if t.size = 0 then some ⟨#[40, 41]⟩ else some t) else none) else some ⟨#[]⟩)
theorem impl_PermText.sg_size (i : Int) : (impl_PermText.sg i).size = 1 := by unfold impl_PermText.sg; split <;> rfl
theorem impl_PermText.dg_size (n : Int) (h : n < 100) : (impl_PermText.dg n).size ≤ 2 := XE.digits_size _ (by omega)
theorem impl_PermText.rows_others {w w' : World} {B o : Nat} {v : Value} {xs : List (List Int)} (h : Kd.S (Kd.slice 3 (Kd.int .i64)) 23 w B (fun _ => True) v xs) (ho : ∃ c, w.heap[o]? = some (.cells c 51 (0, 0))) (hk : Lib.OthersKept 5 (some o) w w') : Kd.S (Kd.slice 3 (Kd.int .i64)) 23 w' B (fun _ => True) v xs := by
  obtain ⟨co, ho⟩ := ho
  refine sM (Kd.S_step (Kd.S_bound h) (fun k ⟨_, _, _, q, hq, c, hc⟩ _ => ?_)) (fun _ _ => trivial)
  have hq' : q = 23 ∨ q = 3 := by simpa [Kd.slice, Kd.int, Kd.scalar] using hq
  rw [hk k _ hc ?_ ?_, hc]
  · intro e; obtain rfl := sI e; rw [ho] at hc; rcases hq' with rfl | rfl <;> simp at hc
  intro c' fz e; rcases hq' with rfl | rfl <;> simp at e
theorem impl_PermText.row_at {w : World} {A : Option Addr} {n : Nat} {xs : List (List Int)} (h : Kd.C (Kd.slice 3 (Kd.int .i64)) w A n xs) (i : Int) (h0 : 0 ≤ i) (h1 : i < n) : ∃ ad A0 c0, A = some ad ∧ w.cell? (ad.add i.toNat) = some (.slice A0 (xs.getD i.toNat []).length c0) ∧ (xs.getD i.toNat []).length ≤ c0 ∧ (Kd.int .i64).C w A0 (xs.getD i.toNat []).length (xs.getD i.toNat []) := by
  obtain ⟨ad, c, e, _, hK, hc0⟩ := Kd.C_get h ([] : List Int) i h0 h1
  have hc : ∀ j u, c[j]? = some u → w.cell? (ad.add (i.toNat * 1 + j)) = some u := hc0
  obtain ⟨A0, c0, rfl, l0, g0⟩ := hK
  exact ⟨ad, A0, c0, e, by have hq := hc 0 _ rfl; rwa [Nat.mul_one, Nat.add_zero] at hq, l0, g0⟩
/-- What holds at the head of a round of the outer loop. -/
def impl_PermText.RO (w : World) (B b : Nat) (v : Value) (cs : List (List Int)) (fin : ByteArray) (i : Int) (wr : World) : Prop :=
  0 ≤ i ∧ i ≤ cs.length ∧ ∃ o rest, impl_PermText.outer (cs.drop i.toNat) = some rest ∧ o ++ rest = fin ∧ Lib.IsBuilder 51 5 B b (Lib.strCells o) wr ∧ Kd.S (Kd.slice 3 (Kd.int .i64)) 23 wr b (fun _ => True) v cs ∧ Below w.heap.size w wr
def impl_PermText.RI (w : World) (B b : Nat) (v : Value) (cs : List (List Int)) (fin : ByteArray) (c : List Int) (rest : ByteArray) (p : Addr) (u : Value) (x : Int) (wr : World) : Prop :=
  wr.cell? p = some u ∧ 0 ≤ x ∧ x ≤ c.length ∧ ∃ o t, impl_PermText.inner x (c.drop x.toNat) = some t ∧ o ++ (t ++ (⟨#[41]⟩ ++ rest)) = fin ∧ Lib.IsBuilder 51 5 B b (Lib.strCells o) wr ∧ Kd.S (Kd.slice 3 (Kd.int .i64)) 23 wr b (fun _ => True) v cs ∧ Below w.heap.size w wr
theorem impl_PermText.outer_step {cs : List (List Int)} {i : Int} (h0 : 0 ≤ i) (h1 : i < cs.length) {rest : ByteArray} (h : impl_PermText.outer (cs.drop i.toNat) = some rest) :
    ((cs.getD i.toNat []).length < 2 ∧ impl_PermText.outer (cs.drop (i + 1).toNat) = some rest) ∨ (¬ (cs.getD i.toNat []).length < 2 ∧ ∃ t u, impl_PermText.inner 0 (cs.getD i.toNat []) = some t ∧ impl_PermText.outer (cs.drop (i + 1).toNat) = some u ∧ rest = t ++ (⟨#[41]⟩ ++ u)) := by
  have hi : i.toNat < cs.length := by omega
  rw [List.drop_eq_getElem_cons hi, show i.toNat + 1 = (i + 1).toNat by omega] at h
  have e : cs.getD i.toNat [] = cs[i.toNat] := by simp [List.getD, hi]
  rw [e]
  simp only [impl_PermText.outer] at h
  split at h
  · rename_i hl; exact .inl ⟨hl, h⟩
  rename_i hl
  obtain ⟨t, h1, h⟩ := Option.bind_eq_some_iff.1 h; obtain ⟨u, h2, h⟩ := Option.bind_eq_some_iff.1 h
  exact .inr ⟨hl, t, u, h1, h2, (sI h).symm⟩
theorem impl_PermText.inner_step {c : List Int} {x : Int} (h0 : 0 ≤ x) (h1 : x < c.length) {t : ByteArray} (h : impl_PermText.inner x (c.drop x.toNat) = some t) :
    0 ≤ rd c x ∧ rd c x < 100 ∧ ∃ u, impl_PermText.inner (x + 1) (c.drop (x + 1).toNat) = some u ∧ t = (impl_PermText.sg x ++ impl_PermText.dg (rd c x)) ++ u := by
  have hi : x.toNat < c.length := by omega
  rw [List.drop_eq_getElem_cons hi, show x.toNat + 1 = (x + 1).toNat by omega] at h
  have e : rd c x = c[x.toNat] := by simp [rd, List.getD, hi]
  simp only [impl_PermText.inner] at h
  rw [← e] at h
  split at h
  · rename_i hl
    obtain ⟨u, h2, h⟩ := Option.bind_eq_some_iff.1 h
    exact ⟨hl.1, hl.2, u, h2, (sI h).symm⟩
  cases h
theorem impl_PermText.cell_others {w w' : World} {B o n cc : Nat} {ad : Addr} {xs : List (List Int)} (h : Kd.S (Kd.slice 3 (Kd.int .i64)) 23 w B (fun _ => True) (.slice (some ad) n cc) xs) (hk : Lib.OthersKept 5 (some o) w w') (ho : ∃ c, w.heap[o]? = some (.cells c 51 (0, 0))) (j : Nat) : w'.cell? (ad.add j) = w.cell? (ad.add j) := by
  obtain ⟨co, ho⟩ := ho
  obtain ⟨g, rfl⟩ := Kd.R_head (Kd.S_R h)
  obtain ⟨c, hc⟩ := Kd.S_typed h g rfl
  rw [show (⟨g, 0, none⟩ : Addr).add j = ⟨g, j, none⟩ by simp [Addr.add] <;> exact fun h => h.symm]
  refine World.cell?_of_block ?_
  show w'.heap[g]? = w.heap[g]?
  refine (hk g _ hc ?_ ?_).trans hc.symm
  · intro e; obtain rfl := sI e; rw [ho] at hc; simp at hc
  intro c' fz e; simp at e
theorem impl_PermText.inner_nil (x : Int) : impl_PermText.inner x [] = some ⟨#[]⟩ := by unfold impl_PermText.inner; rfl
theorem impl_PermText.nil_app (x : ByteArray) : (⟨#[]⟩ : ByteArray) ++ x = x := by
  show ByteArray.empty ++ x = x
  simp
theorem impl_PermText.app_nil (x : ByteArray) : x ++ (⟨#[]⟩ : ByteArray) = x := by
  show x ++ ByteArray.empty = x
  simp
set_option maxHeartbeats 8000000 in
set_option maxRecDepth 100000 in
theorem impl_PermText.calls (k : Nat) (A0 : Option Addr) (c0 : Nat) (l0 : List Int) (r : ByteArray) (w : World) (hr0 : Kd.C (Kd.int .i64) w A0 l0.length l0) (hc0 : l0.length ≤ c0) (h : impl_PermText.f k l0 = some r) :
    Calls Tryz.prog 40 #[.slice A0 l0.length c0] w fun e w' => e = .returned (.string r) ∧ Below w.heap.size w w' := by
  unfold impl_PermText.f at h
  obtain ⟨ok, h1, hq⟩ := Option.bind_eq_some_iff.1 h; clear h
  have H1 := Lib.hid h1; clear h1
  have HR := A0_ hr0; have HC := A0_ hc0; clear hr0 hc0
  cases ok with
  | false =>
    obtain rfl : (⟨#[]⟩ : ByteArray) = r := by simpa using hq
    clear hq
    go_enter Tryz.func40, Tryz.ntmps40
    go_wp2_with (go_at_call 60; (with_reducible refine (impl_PermValid.calls A0 c0 l0 false _ HR.out HC.out H1.out).mono ?_); rintro e w1 ⟨rfl, hb1⟩)
    go_ret
    exact ⟨rfl, hb1⟩
  | true =>
    rw [if_pos rfl] at hq; obtain ⟨cs, h2, hs⟩ := Option.bind_eq_some_iff.1 hq; clear hq; obtain ⟨t, h3, h⟩ := Option.bind_eq_some_iff.1 hs; clear hs
    have hg : t.size ≤ 100000 ∧ cs.length ≤ 1000 ∧ ∀ c ∈ cs, c.length ≤ 1000 := by
      by_cases hg : t.size ≤ 100000 ∧ cs.length ≤ 1000 ∧ ∀ c ∈ cs, c.length ≤ 1000
      · exact hg
      rw [if_neg hg] at h; cases h
    rw [if_pos hg] at h; obtain ⟨hts, hcl, hcc⟩ := hg
    have HCC := A0_ hcc; clear hcc
    have H2 := Lib.hid h2; clear h2
    have H3 := Lib.hid h3; clear h3
    have HH := A0_ h; clear h
    go_enter Tryz.func40, Tryz.ntmps40
    go_wp2_with (first
      | (go_at_call 60; (with_reducible refine (impl_PermValid.calls A0 c0 l0 true _ HR.out HC.out H1.out).mono ?_); rintro e w1 ⟨rfl, hb1⟩)
      | (go_at_call 49; (with_reducible refine (impl_cyclesOf.calls k A0 c0 l0 cs _ (cA (cB HR.out hb1) _) HC.out H2.out).mono ?_); rintro e w3 ⟨v0, rfl, hS, hb3⟩; obtain ⟨A, cc, rfl⟩ := Kd.S_slice hS))
    have hz1 : (w1.alloc (.cells #[.pointer none, .slice none 0 0] 51)).heap.size = w1.heap.size + 1 := by simp
    have hbk : w3.heap[w1.heap.size]? = some (.cells #[.pointer none, .slice none 0 0] 51 (0, 0)) := (hb3.block _ (by rw [hz1]; omega)).trans (heap_alloc_new _ _)
    have RS : impl_PermText.RO w w.heap.size w1.heap.size (.slice A cs.length cc) cs t 0 w3 := by
      refine ⟨Int.le_refl _, by omega, ⟨#[]⟩, t, by simpa using H3.out, impl_PermText.nil_app t, .inl ⟨hb1.size, _, hbk, World.ownsRow_nil _ _ _ _, by simp [Value.ownBlock]⟩, Kd.S_lower hS (by rw [hz1]; omega), ?_⟩
      exact (hb1.alloc hb1.size _).trans (hb3.mono (by rw [hz1]; have := hb1.size; omega))
    clear hS hbk; have hz0 := hb1.size; clear hb3 hz1 hb1
    go_loopw [15] (fun i wr => ∃ x : Int, i = .int .i64 x ∧ impl_PermText.RO w w.heap.size w1.heap.size (.slice A cs.length cc) cs t x wr) (fun i _ => cs.length - (RowKit.intOf i).toNat)
    case atStart => exact ⟨0, rfl, RS⟩
    case round =>
      clear RS; obtain ⟨x, rfl, x0, x1, o, rest, g1, g2, g3, g4, g5⟩ := hrel
      have G1 := Lib.hid g1; clear g1
      have G2 := Lib.hid g2; clear g2
      by_cases hlt : x < cs.length
      · obtain ⟨-, hcap, hC⟩ := Kd.S_reads' g4
        obtain ⟨ad, A1, c1, ea, hx, hl1, hC1⟩ := impl_PermText.row_at hC x x0 hlt; subst ea
        have hos := impl_PermText.outer_step x0 hlt G1.out
        have hcm : (cs.getD x.toNat []).length ≤ 1000 := HCC.out _ (by rw [List.getD_eq_getElem?_getD, List.getElem?_eq_getElem (by omega)]; exact List.getElem_mem _)
        obtain ⟨c, hce⟩ : ∃ c, cs.getD x.toNat [] = c := ⟨_, rfl⟩
        rw [hce] at hx hl1 hC1 hos hcm
        have HCE := Lib.hid hce; clear hce
        have HC1 := A0_ hC1; clear hC1 hC
        have p1 := eq_true x0; have p2 := eq_true hlt
        rcases hos with ⟨hl, g⟩ | ⟨hl, tt, u, gi, gu, ge⟩
        · have HG := Lib.hid g; clear g
          go_wp2
          go_roundw
          case rel => exact ⟨x + 1, by go_num, by omega, by omega, o, rest, HG.out, G2.out, g3, g4, g5⟩
          case measure => simp [RowKit.intOf]; omega
        have HGI := Lib.hid gi; clear gi
        have HGU := Lib.hid gu; clear gu
        have RI0 : impl_PermText.RI w w.heap.size w1.heap.size (.slice (some ad) cs.length cc) cs t c u (ad.add x.toNat) (.slice A1 c.length c1) 0 wr := ⟨hx, Int.le_refl _, by omega, o, tt, by simpa using HGI.out, by rw [← ge]; exact G2.out, g3, g4, g5⟩
        clear ge HGI G2 g3 g4 g5
        go_wp2
        clear hx HC1 p1 p2
        go_loopw [24] (fun i wq => ∃ y : Int, i = .int .i64 y ∧ impl_PermText.RI w w.heap.size w1.heap.size (.slice (some ad) cs.length cc) cs t c u (ad.add x.toNat) (.slice A1 c.length c1) y wq) (fun i _ => c.length - (RowKit.intOf i).toNat)
        case atStart => exact ⟨0, rfl, RI0⟩
        case round =>
          clear RI0; obtain ⟨y, rfl, hx, y0, y1, o2, t2, k1, k2, k3, k4, k5⟩ := hrel
          have K1 := Lib.hid k1; clear k1
          have K2 := Lib.hid k2; clear k2
          have hsz : (o2 ++ (t2 ++ (⟨#[41]⟩ ++ u))).size ≤ 100000 := by rw [K2.out]; exact hts
          rw [ByteArray.size_append, ByteArray.size_append, ByteArray.size_append, show (⟨#[41]⟩ : ByteArray).size = 1 from rfl] at hsz
          by_cases hly : y < c.length
          · obtain ⟨n0, n1, u2, hu2, he2⟩ := impl_PermText.inner_step y0 hly K1.out
            have hC2 := (Kd.S_reads' k4).2.2
            obtain ⟨ad', A2, c2, ea2, hx2, _, hC3⟩ := impl_PermText.row_at hC2 x x0 hlt
            cases ea2
            rw [HCE.out] at hx2 hC3
            have eA : A2 = A1 ∧ c2 = c1 := by rw [hx] at hx2; simp at hx2; exact ⟨hx2.1.symm, hx2.2.symm⟩
            obtain ⟨rfl, rfl⟩ := eA; clear hx2 hC2; obtain ⟨ae, e1, hxe⟩ := tI hC3 y y0 hly
            cases e1
            clear hC3
            obtain ⟨m, hm⟩ : ∃ m : Nat, rd c y = m := ⟨(rd c y).toNat, by omega⟩
            rw [hm] at hxe n1 he2
            have hm1 : m < 100 := by omega
            have hdm : impl_PermText.dg (m : Int) = ⟨(Lib.decDigits m).toArray⟩ := by unfold impl_PermText.dg; simp
            obtain ⟨dm, hdm2⟩ : ∃ dm : ByteArray, (⟨(Lib.decDigits m).toArray⟩ : ByteArray) = dm := ⟨_, rfl⟩
            have hds : dm.size ≤ 2 := by rw [← hdm2]; exact XE.digits_size m hm1
            have hit : ∀ w, Calls Tryz.prog 38 #[.int .i64 (m : Int)] w fun e w' => e = .returned (.string dm) ∧ w' = w := by intro w; rw [← hdm2]; exact XS.itoa_small m hm1 w
            rw [hdm, hdm2] at he2
            have HM := Lib.hid hm; clear hm hdm hdm2 n0 n1
            have HU2 := Lib.hid hu2; clear hu2
            have hz2 : t2.size = 1 + dm.size + u2.size := by rw [he2, ByteArray.size_append, ByteArray.size_append, impl_PermText.sg_size]
            have KE : Hid ((o2 ++ (impl_PermText.sg y ++ dm)) ++ (u2 ++ (⟨#[41]⟩ ++ u)) = t) := by
              have := K2.out
              rw [he2] at this
              rw [← this]
              show _ = _
              simp only [ByteArray.append_assoc]
            clear he2
            have hw2 := XE.Builder_ws k3 (impl_PermText.sg y ++ dm) (by rw [Lib.strCells_length, ByteArray.size_append, impl_PermText.sg_size]; omega) k5.size
            have hblk := XE.is_block k3; have p1 := eq_true y0; have p2 := eq_true hly
            have hws : (impl_PermText.sg y ++ dm).size ≤ 3 := by rw [ByteArray.size_append, impl_PermText.sg_size]; omega
            by_cases hy : y = 0
            · have hb1 : (y == 0) = true := by simp [hy]
              have hb2 : decide (y = 0) = true := by simp [hy]
              have hsg : impl_PermText.sg y = ⟨#[40]⟩ := by unfold impl_PermText.sg; rw [if_pos hy]
              rw [hsg] at hw2 KE hws
              clear hsg
              have HYB := Lib.hid hy; clear hy
              go_wp2_with (first
                | (go_at_call 38; (with_reducible refine (hit _).mono ?_); rintro e w' ⟨rfl, rfl⟩)
                | (go_at_call 36; (with_reducible refine hw2.mono ?_); rintro e w4 ⟨rfl, b4, B4, q4⟩))
              go_roundw
              case rel => exact ⟨y + 1, by go_num, (impl_PermText.cell_others k4 q4 hblk _).trans hx, by omega, by omega, o2 ++ (⟨#[40]⟩ ++ dm), u2, HU2.out, KE.out, b4, impl_PermText.rows_others k4 hblk q4, k5.trans B4⟩
              case measure => simp [RowKit.intOf]; omega
            have hb1 : (y == 0) = false := by simp [hy]
            have hb2 : decide (y = 0) = false := by simp [hy]
            have hsg : impl_PermText.sg y = ⟨#[44]⟩ := by unfold impl_PermText.sg; rw [if_neg hy]
            rw [hsg] at hw2 KE hws
            clear hsg
            have HYB := Lib.hid hy; clear hy
            go_wp2_with (first
              | (go_at_call 38; (with_reducible refine (hit _).mono ?_); rintro e w' ⟨rfl, rfl⟩)
              | (go_at_call 36; (with_reducible refine hw2.mono ?_); rintro e w4 ⟨rfl, b4, B4, q4⟩))
            go_roundw
            case rel => exact ⟨y + 1, by go_num, (impl_PermText.cell_others k4 q4 hblk _).trans hx, by omega, by omega, o2 ++ (⟨#[44]⟩ ++ dm), u2, HU2.out, KE.out, b4, impl_PermText.rows_others k4 hblk q4, k5.trans B4⟩
            case measure => simp [RowKit.intOf]; omega
          have hnil : c.drop y.toNat = [] := List.drop_eq_nil_of_le (by omega)
          have ht2 : t2 = ⟨#[]⟩ := by
            have := K1.out
            rw [hnil, impl_PermText.inner_nil] at this
            exact (sI this).symm
          have KE : Hid ((o2 ++ ⟨#[41]⟩) ++ u = t) := by
            have := K2.out
            rw [ht2, impl_PermText.nil_app] at this
            rw [← this]
            show _ = _
            simp only [ByteArray.append_assoc]
          clear hnil ht2
          have hw2 := XE.Builder_ws k3 ⟨#[41]⟩ (by rw [Lib.strCells_length, show (⟨#[41]⟩ : ByteArray).size = 1 from rfl]; omega) k5.size
          have hblk := XE.is_block k3
          go_wp2_with (go_at_call 36; (with_reducible refine hw2.mono ?_); rintro e w4 ⟨rfl, b4, B4, q4⟩)
          go_roundw
          case rel => exact ⟨x + 1, by go_num, by omega, by omega, o2 ++ ⟨#[41]⟩, u, HGU.out, KE.out, b4, impl_PermText.rows_others k4 hblk q4, k5.trans B4⟩
          case measure => simp [RowKit.intOf]; omega
      have hnil : cs.drop x.toNat = [] := List.drop_eq_nil_of_le (by omega)
      have hrest : rest = ⟨#[]⟩ := by
        have := G1.out
        rw [hnil] at this
        exact (sI this).symm
      have hot : o = t := by
        have := G2.out
        rw [hrest, impl_PermText.app_nil] at this
        exact this
      subst hot; clear hnil hrest G2 G1; have hlen := XS.blen _ _ _ _ g3
      by_cases hz : o.size = 0
      · have hr : (⟨#[40, 41]⟩ : ByteArray) = r := by have := HH.out; rw [if_pos hz] at this; exact sI this
        subst hr; rw [hz] at hlen
        have HZ := Lib.hid hz; clear hz
        go_wp2_with (go_at_call 81; (with_reducible refine hlen.mono ?_); rintro e w' ⟨rfl, rfl⟩)
        go_ret
        exact ⟨rfl, g5⟩
      have hr : o = r := by have := HH.out; rw [if_neg hz] at this; exact sI this
      have hb1 : ((o.size : Int) == 0) = false := by rw [beq_eq_false_iff_ne]; omega
      have hb2 : decide ((o.size : Int) = 0) = false := dF (by omega)
      have HZ := Lib.hid hz; clear hz
      subst hr
      have hstr := XS.bstring _ _ _ _ g3 g5.size
      go_wp2_with (first
        | (go_at_call 81; (with_reducible refine hlen.mono ?_); rintro e w' ⟨rfl, rfl⟩)
        | (go_at_call 39; (with_reducible refine hstr.mono ?_); rintro e w4 ⟨rfl, B4⟩))
      go_ret
      exact ⟨rfl, g5.trans B4⟩


end Go.Proofs.YtikkokflcgcnbaaGreatDoor.PFnExecuteForm
