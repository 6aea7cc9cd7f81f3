-- Made by a program of this session (wip/tools) out of the loaded program; not trusted: Lean checks it.
import Derived.Test.YtlckmmnpcljhoaaPFnVoltagex0
import Derived.Test.YtlckmmnpcljhoaaPFnVoltagex1
import Derived.Test.YtlckmmnpcljhoaaPFnVoltagex2
import Derived.Test.YtlckmmnpcljhoaaPFnVoltagex3
import Derived.Test.YtlckmmnpcljhoaaPFnVoltagex9
-- packed
namespace Go.Proofs.Ytlckmmnpcljhoaa.PFnVoltage
open Go.RowKit Go.Proofs.YtlckmmnpcljhoaaW.PrintWords Go.Proofs.YtlckmmnpcljhoaaW.PrintLast Go.Proofs.YtlckmmnpcljhoaaW.PrintMore
attribute [local go_sem] max2_int min2_int max_two min_two max_three min_three max_four min_four   -- for this text's walks alone
set_option linter.unusedVariables false
set_option linter.unusedSimpArgs false

/-! ### impl_MapCounts: function 17 -/
def impl_MapCounts.f (k : Nat) (l0_0 : List Int) (l0_1 : List Int) : Option (List Int × Bool) := (impl_MapValid.f k l0_0 l0_1).bind fun t386 => (if t386 = true then ((impl_cyclesOf.f k l0_0).bind fun t387 => ((impl_mul.f k l0_1 l0_0).bind fun t390 => ((impl_cyclesOf.f k t390).bind fun t393 => (some ((([(t387.length : Int), wrap64 ((l0_1.length : Int) / 2), (t393.length : Int)] : List Int)), true))))) else (some (([] : List Int), false)))
def impl_MapCounts.T3 : Bool × List (List Nat × List Nat) := (true, [([], []), ([0], [0]), ([1], [1]), ([2], [2]), ([], []), ([4], [4]), ([5], [5]), ([6], [6]), ([], []), ([8], [8]), ([], []), ([10], [10]), ([9, 11, 2], [9, 11]), ([12, 12], [12]), ([13], [13]), ([3, 7, 14], [3, 7, 14]), ([15, 13, 0, 1, 2, 3, 4, 5, 6, 7, 8, 9, 10, 11, 12, 13, 14, 15], [15]), ([16, 0, 1, 2, 3, 4, 5, 6, 7, 8, 9, 10, 11, 12, 13, 14, 15, 16], [])])
def impl_MapCounts.B3 : List Nat := [0, 1, 3, 7, 0, 16, 48, 112, 0, 256, 0, 1024, 3847, 7943, 16135, 32767, 65535, 131071]
theorem impl_MapCounts.tab3 : rtab .any (opsOf Try.f17 3) = impl_MapCounts.T3 := by kernel_rfl
theorem impl_MapCounts.bits3 : waitsOk impl_MapCounts.T3.2 impl_MapCounts.B3 = true := by kernel_rfl
set_option maxHeartbeats 8000000 in
set_option maxRecDepth 100000 in
theorem impl_MapCounts.calls (k : Nat) (A0_0 : Option Addr) (c0_0 : Nat) (l0_0 : List Int) (A0_1 : Option Addr) (c0_1 : Nat) (l0_1 : List Int) (r1 : List Int) (r2 : Bool) (w : World) (hr0_0 : Kd.C (Kd.int .i64) w A0_0 l0_0.length l0_0) (hc0_0 : l0_0.length ≤ c0_0) (hr0_1 : Kd.C (Kd.int .i64) w A0_1 l0_1.length l0_1) (hc0_1 : l0_1.length ≤ c0_1) (h : impl_MapCounts.f k l0_0 l0_1 = some (r1, r2)) :
    Calls Try.prog 17 #[.agg #[.slice A0_0 l0_0.length c0_0, .slice A0_1 l0_1.length c0_1]] w fun e w' => ∃ v0_ : Value, e = .returned (.tuple #[v0_, .bool r2]) ∧ Kd.R (Kd.int .i64) 3 w' w.heap.size (fun _ => True) v0_ r1 ∧ Below w.heap.size w w' := by
 have hu25 := Try.underlying25; have HR0_0 := A0_ hr0_0; have HC0_0 := A0_ hc0_0; clear hr0_0 hc0_0; have HR0_1 := A0_ hr0_1; have HC0_1 := A0_ hc0_1; clear hr0_1 hc0_1
 have HB := A0_ (Below.refl w.heap.size w)
 have H : ((impl_MapValid.f k l0_0 l0_1).bind fun t386 => (if t386 = true then ((impl_cyclesOf.f k l0_0).bind fun t387 => ((impl_mul.f k l0_1 l0_0).bind fun t390 => ((impl_cyclesOf.f k t390).bind fun t393 => (some ((([(t387.length : Int), wrap64 ((l0_1.length : Int) / 2), (t393.length : Int)] : List Int)), true))))) else (some (([] : List Int), false)))) = some (r1, r2) := h
 clear h; obtain ⟨t386, A2, H⟩ := zbind H
 by_cases c3 : t386 = true
 ·subst c3
  have H1 : ((impl_cyclesOf.f k l0_0).bind fun t387 => ((impl_mul.f k l0_1 l0_0).bind fun t390 => ((impl_cyclesOf.f k t390).bind fun t393 => (some ((([(t387.length : Int), wrap64 ((l0_1.length : Int) / 2), (t393.length : Int)] : List Int)), true))))) = some (r1, r2) := by rw [if_pos rfl] at H; exact H
  clear H; have H := H1; clear H1; obtain ⟨t387, A4, H⟩ := zbind H; obtain ⟨t390, A5, H⟩ := zbind H; obtain ⟨t393, A6, H⟩ := zbind H
  obtain ⟨y396, hy396⟩ : ∃ y_ : List Int, y_ = (([(t387.length : Int), wrap64 ((l0_1.length : Int) / 2), (t393.length : Int)] : List Int)) := ⟨_, rfl⟩
  replace H : (some (y396, true)) = some (r1, r2) := by first | (rw [hy396]; with_reducible exact H) | (have H2_ := (Option.bind_some _ _).symm.trans H; rw [hy396]; with_reducible exact H2_) | (have H2_ := (Option.bind_some _ _).symm.trans H; with_reducible exact H2_) | with_reducible exact H | (rw [hy396]; exact H) | exact H
  have Ny396 := A0_ hy396; clear hy396; simp only [Option.some.injEq, Prod.mk.injEq] at H; obtain ⟨rfl, rfl⟩ := H
  go_enter Try.func17, Try.ntmps17
  try go_wp2_with (first | ((with_reducible refine gD (N := 1) rfl ?_); refine box_event ?hg (N := 1) ?hd (cs := #[.slice A0_0 l0_0.length c0_0, .slice A0_1 l0_1.length c0_1]) (t := 25) ?hr ?_; (case hd => rfl); (case hg => rfl); (case hr => first | (go_simp; done) | (go_simp; rfl)); intro gb385 hg w7 hbox hb; have BK385 := A0_ (hbox); have GW385 := zG hg HB; have GE385 := zG hg HB; replace HB := zB HB hb; clear hb hbox hg; have hcz8_0 : w7.cell? ⟨gb385, 0, none⟩ = some (.slice A0_0 l0_0.length c0_0) := (kC BK385.out 0).trans rfl; have hcz8_1 : w7.cell? ⟨gb385, 1, none⟩ = some (.slice A0_1 l0_1.length c0_1) := (kC BK385.out 1).trans rfl; have hfz8_0 := kF BK385.out 0; have hfz8_1 := kF BK385.out 1) | ((with_reducible refine gC (f := 27) rfl ?_); refine goesL_ (some 5) rfl rfl Try.func27 (by kernel_rfl) rfl #[.agg #[.slice A0_0 l0_0.length c0_0, .slice A0_1 l0_1.length c0_1]] rfl (by (try simp only [List.map_toArray, List.map_cons, List.map_nil]); first | done | rfl) ?_; (with_reducible refine (impl_MapValid.calls k (fun k_ => k_ < w.heap.size) _ _ l0_0 (fun k_ => k_ < w.heap.size) _ _ l0_1 true _ ?side1 ?side2 A2.out).mono ?_); (case side1 => exact Kd.V_mk HC0_0.out (Kd.F_below (Kd.C_F (Kd.heap_int .i64) HR0_0.out) (zB_ HB))); (case side2 => exact Kd.V_mk HC0_1.out (Kd.F_below (Kd.C_F (Kd.heap_int .i64) HR0_1.out) (zB_ HB))); rintro e w9 ⟨rfl, hb⟩; refine ⟨_, rfl, ?_⟩; replace BK385 := zK BK385 hb; replace HB := zB HB hb; (try clear hb)))
  replace BK385 := A0_ (kD BK385.out)
  replace HB := A0_ (bD HB.out)
  refine start_ (n := 18) (S := fun w' => w'.cell? ⟨gb385, 0, none⟩ = some (.slice A0_0 l0_0.length c0_0) ∧ w'.cell? ⟨gb385, 1, none⟩ = some (.slice A0_1 l0_1.length c0_1)) (ds := []) #[false, false, false, false, false, false, false, false, false, false, false, false, false, false, false, false, false, false] (by kernel_rfl) rfl rfl ⟨(kC BK385.out 0).trans rfl, (kC BK385.out 1).trans rfl⟩ (fun hHeld => ?_); refine with_tabW impl_MapCounts.tab3 impl_MapCounts.bits3 (fun HT_ HW_ => ?_)
  generalize w9.drew = w10 at BK385 HB hHeld ⊢
  refine pure_ (i := 0) (N := some 7) (v := ?_) (a' := ?_) #[true, false, false, false, false, false, false, false, false, false, false, false, false, false, false, false, false, false] rfl rfl (any_of HT_.out (by kernel_rfl)) (fun _ _ _ h => h) (Or.inl ⟨by rfl, ?_⟩) ?_ ?_
  rotate_left
  ·intro w'
   go_simp
   with_reducible rfl
  rotate_left
  ·simp only [Act.put, List.setIfInBounds_toArray, List.set_cons_zero, List.set_cons_succ, i64_w, i32_w]
   rfl
  refine pure_ (i := 4) (N := some 11) (v := ?_) (a' := ?_) #[true, false, false, false, true, false, false, false, false, false, false, false, false, false, false, false, false, false] rfl rfl (any_of HT_.out (by kernel_rfl)) (fun _ _ _ h => h) (Or.inl ⟨by rfl, ?_⟩) ?_ ?_
  rotate_left
  ·intro w'
   go_simp
   with_reducible rfl
  rotate_left
  ·simp only [Act.put, List.setIfInBounds_toArray, List.set_cons_zero, List.set_cons_succ, i64_w, i32_w]
   rfl
  refine pure_ (i := 8) (N := some 15) (v := ?_) (a' := ?_) #[true, false, false, false, true, false, false, false, true, false, false, false, false, false, false, false, false, false] rfl rfl (any_of HT_.out (by kernel_rfl)) (fun _ _ _ h => h) (Or.inl ⟨by rfl, ?_⟩) ?_ ?_
  rotate_left
  ·intro w'
   go_simp
   with_reducible rfl
  rotate_left
  ·simp only [Act.put, List.setIfInBounds_toArray, List.set_cons_zero, List.set_cons_succ, i64_w, i32_w]
   rfl
  refine pure_ (i := 10) (N := some 17) (v := ?_) (a' := ?_) #[true, false, false, false, true, false, false, false, true, false, true, false, false, false, false, false, false, false] rfl rfl (any_of HT_.out (by kernel_rfl)) (fun _ _ _ h => h) (Or.inl ⟨by rfl, ?_⟩) ?_ ?_
  rotate_left
  ·intro w'
   go_simp
   with_reducible rfl
  rotate_left
  ·simp only [Act.put, List.setIfInBounds_toArray, List.set_cons_zero, List.set_cons_succ, i64_w, i32_w]
   rfl
  refine take_ (i := 1) (N := some 8) (v := ?_) (a' := ?_) #[true, true, false, false, true, false, false, false, true, false, true, false, false, false, false, false, false, false] rfl rfl (take_ofW HT_.out HW_.out (by kernel_rfl)) (fun _ _ _ h => h) (Or.inl ⟨by rfl, ?_⟩) hHeld ?_ ?_
  rotate_left
  ·rintro w' ⟨s0, s1⟩
   go_simp
   with_reducible rfl
  rotate_left
  ·simp only [Act.put, List.setIfInBounds_toArray, List.set_cons_zero, List.set_cons_succ, i64_w, i32_w]
   rfl
  refine take_ (i := 5) (N := some 12) (v := ?_) (a' := ?_) #[true, true, false, false, true, true, false, false, true, false, true, false, false, false, false, false, false, false] rfl rfl (take_ofW HT_.out HW_.out (by kernel_rfl)) (fun _ _ _ h => h) (Or.inl ⟨by rfl, ?_⟩) hHeld ?_ ?_
  rotate_left
  ·rintro w' ⟨s0, s1⟩
   go_simp
   with_reducible rfl
  rotate_left
  ·simp only [Act.put, List.setIfInBounds_toArray, List.set_cons_zero, List.set_cons_succ, i64_w, i32_w]
   rfl
  refine pure_ (i := 6) (N := some 13) (v := ?_) (a' := ?_) #[true, true, false, false, true, true, true, false, true, false, true, false, false, false, false, false, false, false] rfl rfl (any_of HT_.out (by kernel_rfl)) (fun _ _ _ h => h) (Or.inl ⟨by rfl, ?_⟩) ?_ ?_
  rotate_left
  ·intro w'
   go_simp
   with_reducible rfl
  rotate_left
  ·simp only [Act.put, List.setIfInBounds_toArray, List.set_cons_zero, List.set_cons_succ, i64_w, i32_w]
   rfl
  refine pure_ (i := 7) (N := some 14) (v := ?_) (a' := ?_) #[true, true, false, false, true, true, true, true, true, false, true, false, false, false, false, false, false, false] rfl rfl (any_of HT_.out (by kernel_rfl)) (fun _ _ _ h => h) (Or.inl ⟨by rfl, ?_⟩) ?_ ?_
  rotate_left
  ·intro w'
   go_simp
   with_reducible rfl
  rotate_left
  ·simp only [Act.put, List.setIfInBounds_toArray, List.set_cons_zero, List.set_cons_succ, i64_w, i32_w]
   rfl
  refine take_ (i := 9) (N := some 16) (v := ?_) (a' := ?_) #[true, true, false, false, true, true, true, true, true, true, true, false, false, false, false, false, false, false] rfl rfl (take_ofW HT_.out HW_.out (by kernel_rfl)) (fun _ _ _ h => h) (Or.inl ⟨by rfl, ?_⟩) hHeld ?_ ?_
  rotate_left
  ·rintro w' ⟨s0, s1⟩
   go_simp
   with_reducible rfl
  rotate_left
  ·simp only [Act.put, List.setIfInBounds_toArray, List.set_cons_zero, List.set_cons_succ, i64_w, i32_w]
   rfl
  refine take_ (i := 11) (N := some 18) (v := ?_) (a' := ?_) #[true, true, false, false, true, true, true, true, true, true, true, true, false, false, false, false, false, false] rfl rfl (take_ofW HT_.out HW_.out (by kernel_rfl)) (fun _ _ _ h => h) (Or.inl ⟨by rfl, ?_⟩) hHeld ?_ ?_
  rotate_left
  ·rintro w' ⟨s0, s1⟩
   go_simp
   with_reducible rfl
  rotate_left
  ·simp only [Act.put, List.setIfInBounds_toArray, List.set_cons_zero, List.set_cons_succ, i64_w, i32_w]
   rfl
  refine one_ (i := 2) (N := some 9) #[true, true, true, false, true, true, true, true, true, true, true, true, false, false, false, false, false, false] rfl rfl (one_of HT_.out (by kernel_rfl)) (by decide) (fun K hK => ?_)
  refine goes_ Try.func32 (by kernel_rfl) rfl #[.slice A0_0 l0_0.length c0_0] (by rfl) rfl rfl (by (try simp only [List.map_toArray, List.map_cons, List.map_nil]); first | done | rfl | (simp only [List.length_drop, List.length_take]; rfl)) ?_
  with_reducible refine (impl_cyclesOf.calls k _ _ l0_0 t387 _ ?side1 ?side2 A4.out).mono ?_
  (case side1 => repeat (first | exact (cB HR0_0.out HB.out) | (with_reducible refine cA ?_ _) | (with_reducible refine cN ?_ _) | (with_reducible refine cD ?_)))
  (case side2 => exact HC0_0.out)
  rintro e w11 ⟨v388, rfl, ho0, hb⟩
  refine ⟨_, rfl, ?_⟩
  have HO389 := A0_ (Kd.S_lower ho0 (bZ (zB_ HB)))
  replace BK385 := zK BK385 hb; replace HB := zB HB hb; (try clear hb); (try clear hb2); (try clear hk); (try clear hi); (try clear ho0); obtain ⟨Ao12, co12, eo12⟩ := Kd.S_slice HO389.out
  (first | subst eo12 | (injection eo12 with f1_ f2_ f3_; have f4_ := f1_.symm; have f5_ := f3_.symm; clear f1_ f2_ f3_; subst f4_; subst f5_))
  refine hK.out _ _ ⟨(kC BK385.out 0).trans rfl, (kC BK385.out 1).trans rfl⟩ (fun hHeld => ?_)
  clear hK K
  refine norm_ (a' := ?_) ?_ ?_
  rotate_left
  ·show Act.put _ (some 9) _ = _
   simp only [Act.put, List.setIfInBounds_toArray, List.set_cons_zero, List.set_cons_succ, i64_w, i32_w]
   rfl
  refine pure_ (i := 3) (N := some 10) (v := ?_) (a' := ?_) #[true, true, true, true, true, true, true, true, true, true, true, true, false, false, false, false, false, false] rfl rfl (any_of HT_.out (by kernel_rfl)) (fun _ _ _ h => h) (Or.inl ⟨by rfl, ?_⟩) ?_ ?_
  rotate_left
  ·intro w'
   go_simp
   with_reducible rfl
  rotate_left
  ·simp only [Act.put, List.setIfInBounds_toArray, List.set_cons_zero, List.set_cons_succ, i64_w, i32_w]
   rfl
  refine one_ (i := 12) (N := some 19) #[true, true, true, true, true, true, true, true, true, true, true, true, true, false, false, false, false, false] rfl rfl (one_of HT_.out (by kernel_rfl)) (by decide) (fun K hK => ?_)
  refine goes_ Try.func29 (by kernel_rfl) rfl #[.slice A0_1 l0_1.length c0_1, .slice A0_0 l0_0.length c0_0] (by rfl) rfl rfl (by (try simp only [List.map_toArray, List.map_cons, List.map_nil]); first | done | rfl | (simp only [List.length_drop, List.length_take]; rfl)) ?_
  with_reducible refine (impl_mul.calls k _ _ l0_1 _ _ l0_0 t390 _ ?side1 ?side2 ?side3 ?side4 A5.out).mono ?_
  (case side1 => repeat (first | exact (cB HR0_1.out HB.out) | (with_reducible refine cA ?_ _) | (with_reducible refine cN ?_ _) | (with_reducible refine cD ?_)))
  (case side2 => exact HC0_1.out)
  (case side3 => repeat (first | exact (cB HR0_0.out HB.out) | (with_reducible refine cA ?_ _) | (with_reducible refine cN ?_ _) | (with_reducible refine cD ?_)))
  (case side4 => exact HC0_0.out)
  rintro e w13 ⟨v391, rfl, ho0, hb⟩
  refine ⟨_, rfl, ?_⟩
  replace HO389 := A0_ (Kd.S_elder' (zS_ HO389) (Kd.R_base ho0) hb)
  have HO392 := A0_ (rL ho0 (bZ (zB_ HB)))
  replace BK385 := zK BK385 hb; replace HB := zB HB hb; (try clear hb); (try clear hb2); (try clear hk); (try clear hi); (try clear ho0); obtain ⟨Ao14, co14, eo14⟩ := rS HO392.out
  (first | subst eo14 | (injection eo14 with f1_ f2_ f3_; have f4_ := f1_.symm; have f5_ := f3_.symm; clear f1_ f2_ f3_; subst f4_; subst f5_))
  refine hK.out _ _ ⟨(kC BK385.out 0).trans rfl, (kC BK385.out 1).trans rfl⟩ (fun hHeld => ?_)
  clear hK K
  refine norm_ (a' := ?_) ?_ ?_
  rotate_left
  ·show Act.put _ (some 19) _ = _
   simp only [Act.put, List.setIfInBounds_toArray, List.set_cons_zero, List.set_cons_succ, i64_w, i32_w]
   rfl
  refine one_ (i := 13) (N := some 20) #[true, true, true, true, true, true, true, true, true, true, true, true, true, true, false, false, false, false] rfl rfl (one_of HT_.out (by kernel_rfl)) (by decide) (fun K hK => ?_)
  refine goes_ Try.func32 (by kernel_rfl) rfl #[.slice Ao14 t390.length co14] (by rfl) rfl rfl (by (try simp only [List.map_toArray, List.map_cons, List.map_nil]); first | done | rfl | (simp only [List.length_drop, List.length_take]; rfl)) ?_
  with_reducible refine (impl_cyclesOf.calls k _ _ t390 t393 _ ?side1 ?side2 A6.out).mono ?_
  (case side1 => repeat (first | exact (rR HO392.out).2.2 | (with_reducible refine cA ?_ _) | (with_reducible refine cN ?_ _) | (with_reducible refine cD ?_)))
  (case side2 => exact (rR HO392.out).2.1)
  rintro e w15 ⟨v394, rfl, ho0, hb⟩
  refine ⟨_, rfl, ?_⟩
  have HO395 := A0_ (Kd.S_lower (Kd.S_new' (Kd.S_new' ho0 (Kd.S_lt (zS_ HO389))) (rX (zR_ HO392))) (bZ (zB_ HB)))
  replace HO389 := A0_ (Kd.S_elder' (zS_ HO389) (Kd.S_base ho0) hb)
  replace HO392 := zR HO392 hb; replace BK385 := zK BK385 hb; replace HB := zB HB hb; (try clear hb); (try clear hb2); (try clear hk); (try clear hi); (try clear ho0); obtain ⟨Ao16, co16, eo16⟩ := Kd.S_slice HO395.out
  (first | subst eo16 | (injection eo16 with f1_ f2_ f3_; have f4_ := f1_.symm; have f5_ := f3_.symm; clear f1_ f2_ f3_; subst f4_; subst f5_))
  refine hK.out _ _ ⟨(kC BK385.out 0).trans rfl, (kC BK385.out 1).trans rfl⟩ (fun hHeld => ?_)
  clear hK K
  refine norm_ (a' := ?_) ?_ ?_
  rotate_left
  ·show Act.put _ (some 20) _ = _
   simp only [Act.put, List.setIfInBounds_toArray, List.set_cons_zero, List.set_cons_succ, i64_w, i32_w]
   rfl
  refine pure_ (i := 14) (N := some 21) (v := ?_) (a' := ?_) #[true, true, true, true, true, true, true, true, true, true, true, true, true, true, true, false, false, false] rfl rfl (any_of HT_.out (by kernel_rfl)) (fun _ _ _ h => h) (Or.inl ⟨by rfl, ?_⟩) ?_ ?_
  rotate_left
  ·intro w'
   go_simp
   with_reducible rfl
  rotate_left
  ·simp only [Act.put, List.setIfInBounds_toArray, List.set_cons_zero, List.set_cons_succ, i64_w, i32_w]
   rfl
  refine one_ (i := 15) (N := some 22) #[true, true, true, true, true, true, true, true, true, true, true, true, true, true, true, true, false, false] rfl rfl (one_of HT_.out (by kernel_rfl)) (by decide) (fun K hK => ?_)
  refine Kd.R_lit_step (Kd.int .i64) _ 3 ?hg (N := 22) ?hd (xs := ([(t387.length : Int), wrap64 ((l0_1.length : Int) / 2), (t393.length : Int)] : List Int)) (inner := [.int .i64 (t387.length : Int), .int .i64 (wrap64 ((l0_1.length : Int) / 2)), .int .i64 (t393.length : Int)]) (ok := fun _ => True) (okp := fun _ => True) ?hr ?hp (fun _ hk => hk) trivial (Below.refl _ _) (Nat.le_refl _) (by simp) ?_; (case hd => rfl); (case hg => rfl); (case hr => first | (go_simp; done) | (go_simp; rfl)); (case hp => exact (Reps.one (show Kd.M (Kd.int .i64) _ _ _ (t387.length : Int) [.int .i64 (t387.length : Int)] from rfl) (Reps.one (show Kd.M (Kd.int .i64) _ _ _ (wrap64 ((l0_1.length : Int) / 2)) [.int .i64 (wrap64 ((l0_1.length : Int) / 2))] from rfl) (Reps.one (show Kd.M (Kd.int .i64) _ _ _ (t393.length : Int) [.int .i64 (t393.length : Int)] from rfl) (Reps.none _ _)))))
  intro v397 w17 ho18 hb hg_ hnew_
  clear hg_ hnew_
  (first | rw [← Ny396.out] at ho18 | (simp only [Int.reduceToNat] at ho18; rw [← Ny396.out] at ho18))
  replace HO389 := A0_ (Kd.S_elder' (zS_ HO389) (Kd.R_base ho18) hb)
  replace HO395 := A0_ (Kd.S_elder' (zS_ HO395) (Kd.R_base ho18) hb)
  have HO398 := A0_ (rL (Kd.R_new' ho18 (rX (zR_ HO392))) (bZ (zB_ HB)))
  replace HO392 := A0_ (Kd.R_elder' (zR_ HO392) (Kd.R_base ho18) hb)
  replace BK385 := zK BK385 hb; replace HB := zB HB hb; clear hb ho18
  refine hK.out _ _ ⟨(kC BK385.out 0).trans rfl, (kC BK385.out 1).trans rfl⟩ (fun hHeld => ?_)
  clear hK K
  refine norm_ (a' := ?_) ?_ ?_
  rotate_left
  ·show Act.put _ (some 22) _ = _
   simp only [Act.put, List.setIfInBounds_toArray, List.set_cons_zero, List.set_cons_succ, i64_w, i32_w]
   rfl
  refine pure_ (i := 16) (N := some 2) (v := ?_) (a' := ?_) #[true, true, true, true, true, true, true, true, true, true, true, true, true, true, true, true, true, false] rfl rfl (any_of HT_.out (by kernel_rfl)) (fun _ _ _ h => h) (Or.inl ⟨by rfl, ?_⟩) ?_ ?_
  rotate_left
  ·intro w'
   go_simp
   with_reducible rfl
  rotate_left
  ·simp only [Act.put, List.setIfInBounds_toArray, List.set_cons_zero, List.set_cons_succ, i64_w, i32_w]
   rfl
  refine pure_ (i := 17) (N := some 3) (v := ?_) (a' := ?_) #[true, true, true, true, true, true, true, true, true, true, true, true, true, true, true, true, true, true] rfl rfl (any_of HT_.out (by kernel_rfl)) (fun _ _ _ h => h) (Or.inl ⟨by rfl, ?_⟩) ?_ ?_
  rotate_left
  ·intro w'
   go_simp
   with_reducible rfl
  rotate_left
  ·simp only [Act.put, List.setIfInBounds_toArray, List.set_cons_zero, List.set_cons_succ, i64_w, i32_w]
   rfl
  refine done_ (done_of HT_.out (by kernel_rfl)) ?_
  try go_wp2
  go_ret2
  exact ⟨_, by first | rfl | (simp [*] <;> rfl), zmR HO398 (fun _ hk => trivial), zB_ HB⟩
 replace c3 := Bool.eq_false_iff.mpr c3; subst c3
 have H1 : (some (([] : List Int), false)) = some (r1, r2) := by rw [if_neg (show ¬ (false = true) by decide)] at H; exact H
 clear H; have H := H1; clear H1; simp only [Option.some.injEq, Prod.mk.injEq] at H; obtain ⟨rfl, rfl⟩ := H
 go_enter Try.func17, Try.ntmps17
 go_wp2_with (first | ((with_reducible refine gD (N := 1) rfl ?_); refine box_event ?hg (N := 1) ?hd (cs := #[.slice A0_0 l0_0.length c0_0, .slice A0_1 l0_1.length c0_1]) (t := 25) ?hr ?_; (case hd => rfl); (case hg => rfl); (case hr => first | (go_simp; done) | (go_simp; rfl)); intro gb385 hg w19 hbox hb; have BK385 := A0_ (hbox); have GW385 := zG hg HB; have GE385 := zG hg HB; replace HB := zB HB hb; clear hb hbox hg; have hcz20_0 : w19.cell? ⟨gb385, 0, none⟩ = some (.slice A0_0 l0_0.length c0_0) := (kC BK385.out 0).trans rfl; have hcz20_1 : w19.cell? ⟨gb385, 1, none⟩ = some (.slice A0_1 l0_1.length c0_1) := (kC BK385.out 1).trans rfl; have hfz20_0 := kF BK385.out 0; have hfz20_1 := kF BK385.out 1) | ((with_reducible refine gC (f := 27) rfl ?_); refine goesL_ (some 5) rfl rfl Try.func27 (by kernel_rfl) rfl #[.agg #[.slice A0_0 l0_0.length c0_0, .slice A0_1 l0_1.length c0_1]] rfl (by (try simp only [List.map_toArray, List.map_cons, List.map_nil]); first | done | rfl) ?_; (with_reducible refine (impl_MapValid.calls k (fun k_ => k_ < w.heap.size) _ _ l0_0 (fun k_ => k_ < w.heap.size) _ _ l0_1 false _ ?side1 ?side2 A2.out).mono ?_); (case side1 => exact Kd.V_mk HC0_0.out (Kd.F_below (Kd.C_F (Kd.heap_int .i64) HR0_0.out) (zB_ HB))); (case side2 => exact Kd.V_mk HC0_1.out (Kd.F_below (Kd.C_F (Kd.heap_int .i64) HR0_1.out) (zB_ HB))); rintro e w21 ⟨rfl, hb⟩; refine ⟨_, rfl, ?_⟩; replace BK385 := zK BK385 hb; replace HB := zB HB hb; (try clear hb)))
 go_ret2
 exact ⟨_, by first | rfl | (simp [*] <;> rfl), by first | exact Kd.R_nil _ _ _ _ _ | exact Kd.N_nil _ _ _ _ _ | exact Kd.V_nil _ _ _ _ _ | exact Kd.Q_nil _ _ _ _ _ | exact Kd.S_nil _ _ _ _ _, zB_ HB⟩

/-! ### impl_winding: function 33 -/
def impl_winding.l0 : Nat → List (List Int) → List Int → List Int → Int → Int → List Int → List Int → Option (List Int)
  | 0, _, _, _, _, _, _, _ => none
  | k + 1, x2, x9, x14, x15, x16, x400000, x400001 => if x16 < x15 then (if 0 ≤ x16 then (if x16 < (x14.length : Int) then ((impl_along.f k x400000 x400001 x2 (rd x14 x16)).bind fun t404 => ((impl_mul.f k x9 t404).bind fun t407 => (impl_winding.l0 k x2 t407 x14 x15 (wrap64 (x16 + 1)) x400000 x400001))) else (none)) else (none)) else (some x9)
def impl_winding.f (k : Nat) (l0_0 : List Int) (l0_1 : List Int) (a1 : Int) (l2 : List (List Int)) (l3 : List Int) : Option (List Int) := (impl_still.f k a1).bind fun t400 => (impl_winding.l0 k l2 t400 l3 (l3.length : Int) 0 l0_0 l0_1)
set_option maxHeartbeats 8000000 in
set_option maxRecDepth 100000 in
theorem impl_winding.calls (k : Nat) (A0_0 : Option Addr) (c0_0 : Nat) (l0_0 : List Int) (A0_1 : Option Addr) (c0_1 : Nat) (l0_1 : List Int) (a1 : Int) (A2 : Option Addr) (c2 : Nat) (l2 : List (List Int)) (A3 : Option Addr) (c3 : Nat) (l3 : List Int) (r : List Int) (w : World) (hr0_0 : Kd.C (Kd.int .i64) w A0_0 l0_0.length l0_0) (hc0_0 : l0_0.length ≤ c0_0) (hr0_1 : Kd.C (Kd.int .i64) w A0_1 l0_1.length l0_1) (hc0_1 : l0_1.length ≤ c0_1) (hr2 : Kd.C (Kd.slice 3 (Kd.int .i64)) w A2 l2.length l2) (hc2 : l2.length ≤ c2) (hr3 : Kd.C (Kd.int .i64) w A3 l3.length l3) (hc3 : l3.length ≤ c3) (h : impl_winding.f k l0_0 l0_1 a1 l2 l3 = some r) :
    Calls Try.prog 33 #[.agg #[.slice A0_0 l0_0.length c0_0, .slice A0_1 l0_1.length c0_1], .int .i64 a1, .slice A2 l2.length c2, .slice A3 l3.length c3] w fun e w' => ∃ v0_ : Value, e = .returned (v0_) ∧ Kd.R (Kd.int .i64) 3 w' w.heap.size (fun _ => True) v0_ r ∧ Below w.heap.size w w' := by
 have hu25 := Try.underlying25; have HR0_0 := A0_ hr0_0; have HC0_0 := A0_ hc0_0; clear hr0_0 hc0_0; have HR0_1 := A0_ hr0_1; have HC0_1 := A0_ hc0_1; clear hr0_1 hc0_1; have HR2 := A0_ hr2; have HC2 := A0_ hc2; clear hr2 hc2; have HR3 := A0_ hr3; have HC3 := A0_ hc3; clear hr3 hc3
 have HB := A0_ (Below.refl w.heap.size w)
 have H : ((impl_still.f k a1).bind fun t400 => (impl_winding.l0 k l2 t400 l3 (l3.length : Int) 0 l0_0 l0_1)) = some r := h
 clear h; obtain ⟨t400, A5, H⟩ := zbind H; have H' := A0_ H; clear H
 go_enter Try.func33, Try.ntmps33
 go_wp2_with (first | ((with_reducible refine gD (N := 4) rfl ?_); refine box_event ?hg (N := 4) ?hd (cs := #[.slice A0_0 l0_0.length c0_0, .slice A0_1 l0_1.length c0_1]) (t := 25) ?hr ?_; (case hd => rfl); (case hg => rfl); (case hr => first | (go_simp; done) | (go_simp; rfl)); intro gb399 hg w6 hbox hb; have BK399 := A0_ (hbox); have GW399 := zG hg HB; have GE399 := zG hg HB; replace HB := zB HB hb; clear hb hbox hg) | ((with_reducible refine gC (f := 34) rfl ?_); refine goesL_ (some 13) rfl rfl Try.func34 (by kernel_rfl) rfl #[.int .i64 a1] rfl (by (try simp only [List.map_toArray, List.map_cons, List.map_nil]); first | done | rfl) ?_; (with_reducible refine (impl_still.calls k a1 t400 _ A5.out).mono ?_); rintro e w7 ⟨v401, rfl, ho0, hb⟩; refine ⟨_, rfl, ?_⟩; have HO402 := A0_ (rL ho0 (bZ (zB_ HB))); replace BK399 := zK BK399 hb; replace HB := zB HB hb; (try clear hb); (try clear ho0)))
 go_loopg [9, 16] k (fun kq v9 v16 w' => ∃ (x9_1 : List Int) (x16_1 : Int), v16 = .int .i64 x16_1 ∧ Aside0 (impl_winding.l0 kq l2 x9_1 l3 (l3.length : Int) x16_1 l0_0 l0_1 = some r) ∧ Aside0 (kq ≤ k) ∧ Aside0 (Kd.R (Kd.int .i64) 3 w' w.heap.size (fun _ => True) v9 x9_1) ∧ Aside0 (w'.heap[gb399]? = some (.cells #[(.slice A0_0 l0_0.length c0_0), (.slice A0_1 l0_1.length c0_1)] 25 (0, 0))) ∧ Aside0 (Below w.heap.size w w'))
 case atStart => exact ⟨(t400), (0), zt, H', ⟨Nat.le_refl _⟩, ⟨zR_ HO402⟩, ⟨zK_ BK399⟩, ⟨zB_ HB⟩⟩
 case round =>
  clear H'; (try clear c2); (try clear p2); (try clear c3); obtain ⟨x9_1, x16_1, rfl, HA, HK1, HO_9, BK399, HB⟩ := hrel
  cases gk with
  | zero => exact absurd HA.out (by simp [impl_winding.l0])
  | succ k1 =>
   have H := HA.out; clear HA; simp only [impl_winding.l0] at H
   by_cases c8 : x16_1 < (l3.length : Int)
   ·rw [if_pos c8] at H
    have c8b0 : decide (x16_1 < (l3.length : Int)) = true := dT c8
    clear c8
    by_cases c9 : 0 ≤ x16_1
    ·rw [if_pos c9] at H
     have c9b0 : decide (0 ≤ x16_1) = true := dT c9
     clear c9
     by_cases c10 : x16_1 < (l3.length : Int)
     ·rw [if_pos c10] at H
      have c10b0 : decide (x16_1 < (l3.length : Int)) = true := dT c10
      clear c10; obtain ⟨t404, A11, H⟩ := zbind H; obtain ⟨t407, A12, H⟩ := zbind H; have H' := A0_ H; clear H
      have p403 : 0 ≤ (x16_1 : Int) := oD (by assumption)
      have q403 : x16_1 < (l3.length : Int) := oD (by assumption)
      obtain ⟨ad403, e403, hx403_0⟩ := tI HR3.out x16_1 p403 q403
      cases e403
      replace hx403_0 := (HB.out.cell (wL w _ hx403_0)).trans hx403_0
      replace p403 := eq_true p403; replace q403 := eq_true q403
      have hcz13_0 : wr.cell? ⟨gb399, 0, none⟩ = some (.slice A0_0 l0_0.length c0_0) := (kC BK399.out 0).trans rfl
      have hcz13_1 : wr.cell? ⟨gb399, 1, none⟩ = some (.slice A0_1 l0_1.length c0_1) := (kC BK399.out 1).trans rfl
      have hfz13_0 := kF BK399.out 0; have hfz13_1 := kF BK399.out 1
      go_wp2_with (first | ((with_reducible refine gC (f := 36) rfl ?_); refine goesL_ (some 24) rfl rfl Try.func36 (by kernel_rfl) rfl #[.agg #[.slice A0_0 l0_0.length c0_0, .slice A0_1 l0_1.length c0_1], .slice A2 l2.length c2, .int .i64 (rd l3 x16_1)] rfl (by (try simp only [List.map_toArray, List.map_cons, List.map_nil]); first | done | rfl) ?_; (with_reducible refine (impl_along.calls k1 _ _ l0_0 _ _ l0_1 (fun k_ => k_ < w.heap.size) _ _ l2 (rd l3 x16_1) t404 _ ?side1 ?side2 ?side3 ?side4 ?side5 A11.out).mono ?_); (case side1 => repeat (first | exact (cB HR0_0.out HB.out) | (with_reducible refine cA ?_ _) | (with_reducible refine cN ?_ _) | (with_reducible refine cD ?_))); (case side2 => exact HC0_0.out); (case side3 => repeat (first | exact (cB HR0_1.out HB.out) | (with_reducible refine cA ?_ _) | (with_reducible refine cN ?_ _) | (with_reducible refine cD ?_))); (case side4 => exact HC0_1.out); (case side5 => exact Kd.V_mk HC2.out (Kd.F_below (Kd.C_F (Kd.heap_slice 3 (Kd.heap_int .i64)) HR2.out) (zB_ HB))); rintro e w14 ⟨v405, rfl, ho0, hb⟩; refine ⟨_, rfl, ?_⟩; have HO406 := A0_ (Kd.V_lower (Kd.V_mono (ok' := fun k_ => some k_ ≠ (u9 : Value).ownBlock ∧ k_ ≠ gb399) ho0 (fun k_ hk_ => ⟨Or.elim hk_ (fun hs_ => fun e_ => Nat.not_le.2 hs_ (Kd.R_base HO_9.out k_ e_.symm)) (fun hn_ => (Kd.fresh' (rX (zR_ HO_9)) k_ hn_)), Or.elim hk_ (fun hs_ => fun e_ => Nat.not_le.2 hs_ (by rw [e_]; exact GW399.out)) (fun hn_ => (Kd.freshB (g := gb399) (o := .cells #[.slice A0_0 l0_0.length c0_0, .slice A0_1 l0_1.length c0_1] 25 (0, 0)) (zK_ BK399) k_ hn_))⟩)) (bZ (zB_ HB))); replace HO_9 := zR HO_9 hb; replace BK399 := zK BK399 hb; replace HB := zB HB hb; (try clear hb); (try clear ho0); obtain ⟨Ao15, co15, eo15⟩ := rS HO_9.out; subst eo15; obtain ⟨Ao16, co16, eo16⟩ := Kd.V_slice HO406.out; subst eo16) | ((with_reducible refine gC (f := 29) rfl ?_); refine goesL_ (some 25) rfl rfl Try.func29 (by kernel_rfl) rfl #[.slice Ao15 x9_1.length co15, .slice Ao16 t404.length co16] rfl (by (try simp only [List.map_toArray, List.map_cons, List.map_nil]); first | done | rfl) ?_; (with_reducible refine (impl_mul.calls k1 _ _ x9_1 _ _ t404 t407 _ ?side1 ?side2 ?side3 ?side4 A12.out).mono ?_); (case side1 => repeat (first | exact (rR HO_9.out).2.2 | (with_reducible refine cA ?_ _) | (with_reducible refine cN ?_ _) | (with_reducible refine cD ?_))); (case side2 => exact (rR HO_9.out).2.1); (case side3 => repeat (first | exact (Kd.V_reads' HO406.out).2.2 | (with_reducible refine cA ?_ _) | (with_reducible refine cN ?_ _) | (with_reducible refine cD ?_))); (case side4 => exact (Kd.V_reads' HO406.out).2.1); rintro e w17 ⟨v408, rfl, ho0, hb⟩; refine ⟨_, rfl, ?_⟩; replace HO406 := A0_ (Kd.V_elder' (by (with_reducible repeat (first | apply Kd.V_alloc | apply Kd.V_drewN | apply Kd.V_drew)); exact HO406.out) (Kd.R_base ho0) hb); have HO409 := A0_ (rL (Kd.R_new' ho0 (rX (zR_ HO_9))) (bZ (zB_ HB))); replace HO_9 := A0_ (Kd.R_elder' (zR_ HO_9) (Kd.R_base ho0) hb); replace BK399 := zK BK399 hb; replace HB := zB HB hb; (try clear hb); (try clear ho0)))
      go_roundg k1
      case measure => have := HK1.out; omega
      case rel => exact ⟨(t407), (wrap64 (x16_1 + 1)), zt, H', ⟨by have := HK1.out; omega⟩, ⟨zmR HO409 (fun _ hk => trivial)⟩, ⟨zK_ BK399⟩, ⟨zB_ HB⟩⟩
     rw [if_neg c10] at H
     exact absurd H (by simp)
    rw [if_neg c9] at H
    exact absurd H (by simp)
   rw [if_neg c8] at H
   have c8b0 : decide (x16_1 < (l3.length : Int)) = false := dF c8
   clear c8; obtain rfl := sI H
   go_wp2
   go_ret
   exact ⟨_, by first | rfl | (simp [*] <;> rfl), zR_ HO_9, zB_ HB⟩

/-! ### impl_CoverWinding: function 18 -/
mutual
def impl_CoverWinding.j0 : Nat → Int → List (List Int) → Int → Bool → List Int → List Int → Option (List Int × Bool)
  | 0, _, _, _, _, _, _ => none
  | k + 1, x1, x2, x3, x29, x411000, x411001 => if x29 = true then (some (([] : List Int), false)) else ((impl_mul.f k x411001 x411000).bind fun t412 => ((impl_cyclesOf.f k t412).bind fun t415 => (impl_CoverWinding.l0 k x1 x2 x3 t415 (t415.length : Int) 0 x411000 x411001)))
def impl_CoverWinding.l0 : Nat → Int → List (List Int) → Int → List (List Int) → Int → Int → List Int → List Int → Option (List Int × Bool)
  | 0, _, _, _, _, _, _, _, _ => none
  | k + 1, x1, x2, x3, x35, x36, x37, x411000, x411001 => if x37 < x36 then (if 0 ≤ x37 then (if x37 < (x35.length : Int) then (impl_CoverWinding.l1 k x1 x2 x3 (rd_L1 x35 x37) x35 x36 x37 (rd_L1 x35 x37) ((rd_L1 x35 x37).length : Int) 0 x411000 x411001) else (none)) else (none)) else (some (([] : List Int), false))
def impl_CoverWinding.l1 : Nat → Int → List (List Int) → Int → List Int → List (List Int) → Int → Int → List Int → Int → Int → List Int → List Int → Option (List Int × Bool)
  | 0, _, _, _, _, _, _, _, _, _, _, _, _ => none
  | k + 1, x1, x2, x3, x11, x35, x36, x37, x41, x42, x43, x411000, x411001 => if x43 < x42 then (if 0 ≤ x43 then (if x43 < (x41.length : Int) then (if (rd x41 x43) = x3 then ((impl_winding.f k x411000 x411001 x1 x2 x11).bind fun t420 => (some (t420, true))) else (impl_CoverWinding.l1 k x1 x2 x3 x11 x35 x36 x37 x41 x42 (wrap64 (x43 + 1)) x411000 x411001)) else (none)) else (none)) else (impl_CoverWinding.l0 k x1 x2 x3 x35 x36 (wrap64 (x37 + 1)) x411000 x411001)
end
def impl_CoverWinding.f (k : Nat) (l0_0 : List Int) (l0_1 : List Int) (a1 : Int) (l2 : List (List Int)) (a3 : Int) : Option (List Int × Bool) := (impl_VoltageValid.f k l0_0 l0_1 a1 l2).bind fun t411 => (if t411 = true then (if a3 < 0 then (impl_CoverWinding.j0 k a1 l2 a3 true l0_0 l0_1) else (impl_CoverWinding.j0 k a1 l2 a3 (decide (a3 ≥ (l0_0.length : Int))) l0_0 l0_1)) else (impl_CoverWinding.j0 k a1 l2 a3 true l0_0 l0_1))
set_option maxHeartbeats 8000000 in
set_option maxRecDepth 100000 in
theorem impl_CoverWinding.calls (k : Nat) (A0_0 : Option Addr) (c0_0 : Nat) (l0_0 : List Int) (A0_1 : Option Addr) (c0_1 : Nat) (l0_1 : List Int) (a1 : Int) (A2 : Option Addr) (c2 : Nat) (l2 : List (List Int)) (a3 : Int) (r1 : List Int) (r2 : Bool) (w : World) (hr0_0 : Kd.C (Kd.int .i64) w A0_0 l0_0.length l0_0) (hc0_0 : l0_0.length ≤ c0_0) (hr0_1 : Kd.C (Kd.int .i64) w A0_1 l0_1.length l0_1) (hc0_1 : l0_1.length ≤ c0_1) (hr2 : Kd.C (Kd.slice 3 (Kd.int .i64)) w A2 l2.length l2) (hc2 : l2.length ≤ c2) (h : impl_CoverWinding.f k l0_0 l0_1 a1 l2 a3 = some (r1, r2)) :
    Calls Try.prog 18 #[.agg #[.slice A0_0 l0_0.length c0_0, .slice A0_1 l0_1.length c0_1], .int .i64 a1, .slice A2 l2.length c2, .int .i64 a3] w fun e w' => ∃ v0_ : Value, e = .returned (.tuple #[v0_, .bool r2]) ∧ Kd.R (Kd.int .i64) 3 w' w.heap.size (fun _ => True) v0_ r1 ∧ Below w.heap.size w w' := by
 have hu25 := Try.underlying25; have HR0_0 := A0_ hr0_0; have HC0_0 := A0_ hc0_0; clear hr0_0 hc0_0; have HR0_1 := A0_ hr0_1; have HC0_1 := A0_ hc0_1; clear hr0_1 hc0_1; have HR2 := A0_ hr2; have HC2 := A0_ hc2; clear hr2 hc2
 have HB := A0_ (Below.refl w.heap.size w)
 have H : ((impl_VoltageValid.f k l0_0 l0_1 a1 l2).bind fun t411 => (if t411 = true then (if a3 < 0 then (impl_CoverWinding.j0 k a1 l2 a3 true l0_0 l0_1) else (impl_CoverWinding.j0 k a1 l2 a3 (decide (a3 ≥ (l0_0.length : Int))) l0_0 l0_1)) else (impl_CoverWinding.j0 k a1 l2 a3 true l0_0 l0_1))) = some (r1, r2) := h
 clear h; have HC5 := A0_ H; clear H
 go_enter Try.func18, Try.ntmps18
 go_upto_region 1 with (first | ((with_reducible refine gD (N := 4) rfl ?_); refine box_event ?hg (N := 4) ?hd (cs := #[.slice A0_0 l0_0.length c0_0, .slice A0_1 l0_1.length c0_1]) (t := 25) ?hr ?_; (case hd => rfl); (case hg => rfl); (case hr => first | (go_simp; done) | (go_simp; rfl)); intro gb410 hg w6 hbox hb; have BK410 := A0_ (hbox); have GW410 := zG hg HB; have GE410 := zG hg HB; replace HB := zB HB hb; clear hb hbox hg))
 (try simp only [Act.put, List.setIfInBounds_toArray, List.set_cons_zero, List.set_cons_succ])
 go_cut [29] (fun v29 wc => ∃ (kq : Nat) (x29_4 : Bool), v29 = .bool x29_4 ∧ Aside0 (impl_CoverWinding.j0 kq a1 l2 a3 x29_4 l0_0 l0_1 = some (r1, r2)) ∧ Aside0 (kq ≤ k) ∧ Aside0 (wc.heap[gb410]? = some (.cells #[(.slice A0_0 l0_0.length c0_0), (.slice A0_1 l0_1.length c0_1)] 25 (0, 0))) ∧ Aside0 (Below w.heap.size w wc))
 case first =>
  have H := HC5.out; clear HC5; obtain ⟨t411, A7, H⟩ := zbind H
  by_cases c8 : t411 = true
  ·subst c8
   have H1 : (if a3 < 0 then (impl_CoverWinding.j0 k a1 l2 a3 true l0_0 l0_1) else (impl_CoverWinding.j0 k a1 l2 a3 (decide (a3 ≥ (l0_0.length : Int))) l0_0 l0_1)) = some (r1, r2) := by rw [if_pos rfl] at H; exact H
   clear H; have H := H1; clear H1
   by_cases c9 : a3 < 0
   ·rw [if_pos c9] at H
    have c9b0 : decide (a3 < 0) = true := dT c9
    clear c9
    (first | rw [c9b0] | (simp only [i64_w, i32_w]; rw [c9b0]) | skip)
    have H' := A0_ H; clear H
    have hcz10_0 : w6.cell? ⟨gb410, 0, none⟩ = some (.slice A0_0 l0_0.length c0_0) := (kC BK410.out 0).trans rfl
    have hcz10_1 : w6.cell? ⟨gb410, 1, none⟩ = some (.slice A0_1 l0_1.length c0_1) := (kC BK410.out 1).trans rfl
    have hfz10_0 := kF BK410.out 0; have hfz10_1 := kF BK410.out 1
    go_wp2_with (first | ((with_reducible refine gC (f := 15) rfl ?_); refine goesL_ (some 17) rfl rfl Try.func15 (by kernel_rfl) rfl #[.agg #[.slice A0_0 l0_0.length c0_0, .slice A0_1 l0_1.length c0_1], .int .i64 a1, .slice A2 l2.length c2] rfl (by (try simp only [List.map_toArray, List.map_cons, List.map_nil]); first | done | rfl) ?_; (with_reducible refine (impl_VoltageValid.calls k _ _ l0_0 _ _ l0_1 a1 _ _ l2 true _ ?side1 ?side2 ?side3 ?side4 ?side5 ?side6 A7.out).mono ?_); (case side1 => repeat (first | exact (cB HR0_0.out HB.out) | (with_reducible refine cA ?_ _) | (with_reducible refine cN ?_ _) | (with_reducible refine cD ?_))); (case side2 => exact HC0_0.out); (case side3 => repeat (first | exact (cB HR0_1.out HB.out) | (with_reducible refine cA ?_ _) | (with_reducible refine cN ?_ _) | (with_reducible refine cD ?_))); (case side4 => exact HC0_1.out); (case side5 => repeat (first | exact (cB HR2.out HB.out) | (with_reducible refine cA ?_ _) | (with_reducible refine cN ?_ _) | (with_reducible refine cD ?_))); (case side6 => exact HC2.out); rintro e w11 ⟨rfl, hb⟩; refine ⟨_, rfl, ?_⟩; replace BK410 := zK BK410 hb; replace HB := zB HB hb; (try clear hb)))
    go_meet
    case rel => exact ⟨_, (true), zt, H', zo, ⟨zK_ BK410⟩, ⟨zB_ HB⟩⟩
   rw [if_neg c9] at H
   have c9b0 : decide (a3 < 0) = false := dF c9
   clear c9
   (first | rw [c9b0] | (simp only [i64_w, i32_w]; rw [c9b0]) | skip)
   have H' := A0_ H; clear H
   have hcz12_0 : w6.cell? ⟨gb410, 0, none⟩ = some (.slice A0_0 l0_0.length c0_0) := (kC BK410.out 0).trans rfl
   have hcz12_1 : w6.cell? ⟨gb410, 1, none⟩ = some (.slice A0_1 l0_1.length c0_1) := (kC BK410.out 1).trans rfl
   have hfz12_0 := kF BK410.out 0; have hfz12_1 := kF BK410.out 1
   go_wp2_with (first | ((with_reducible refine gC (f := 15) rfl ?_); refine goesL_ (some 17) rfl rfl Try.func15 (by kernel_rfl) rfl #[.agg #[.slice A0_0 l0_0.length c0_0, .slice A0_1 l0_1.length c0_1], .int .i64 a1, .slice A2 l2.length c2] rfl (by (try simp only [List.map_toArray, List.map_cons, List.map_nil]); first | done | rfl) ?_; (with_reducible refine (impl_VoltageValid.calls k _ _ l0_0 _ _ l0_1 a1 _ _ l2 true _ ?side1 ?side2 ?side3 ?side4 ?side5 ?side6 A7.out).mono ?_); (case side1 => repeat (first | exact (cB HR0_0.out HB.out) | (with_reducible refine cA ?_ _) | (with_reducible refine cN ?_ _) | (with_reducible refine cD ?_))); (case side2 => exact HC0_0.out); (case side3 => repeat (first | exact (cB HR0_1.out HB.out) | (with_reducible refine cA ?_ _) | (with_reducible refine cN ?_ _) | (with_reducible refine cD ?_))); (case side4 => exact HC0_1.out); (case side5 => repeat (first | exact (cB HR2.out HB.out) | (with_reducible refine cA ?_ _) | (with_reducible refine cN ?_ _) | (with_reducible refine cD ?_))); (case side6 => exact HC2.out); rintro e w13 ⟨rfl, hb⟩; refine ⟨_, rfl, ?_⟩; replace BK410 := zK BK410 hb; replace HB := zB HB hb; (try clear hb); have hcz14_0 : w13.cell? ⟨gb410, 0, none⟩ = some (.slice A0_0 l0_0.length c0_0) := (kC BK410.out 0).trans rfl; have hcz14_1 : w13.cell? ⟨gb410, 1, none⟩ = some (.slice A0_1 l0_1.length c0_1) := (kC BK410.out 1).trans rfl; have hfz14_0 := kF BK410.out 0; have hfz14_1 := kF BK410.out 1))
   go_meet
   case rel => exact ⟨_, (decide (a3 ≥ (l0_0.length : Int))), zt, H', zo, ⟨zK_ BK410⟩, ⟨zB_ HB⟩⟩
  replace c8 := Bool.eq_false_iff.mpr c8; subst c8
  have H1 : (impl_CoverWinding.j0 k a1 l2 a3 true l0_0 l0_1) = some (r1, r2) := by rw [if_neg (show ¬ (false = true) by decide)] at H; exact H
  clear H; have H := H1; clear H1; have H' := A0_ H; clear H
  have hcz15_0 : w6.cell? ⟨gb410, 0, none⟩ = some (.slice A0_0 l0_0.length c0_0) := (kC BK410.out 0).trans rfl
  have hcz15_1 : w6.cell? ⟨gb410, 1, none⟩ = some (.slice A0_1 l0_1.length c0_1) := (kC BK410.out 1).trans rfl
  have hfz15_0 := kF BK410.out 0; have hfz15_1 := kF BK410.out 1
  go_wp2_with (first | ((with_reducible refine gC (f := 15) rfl ?_); refine goesL_ (some 17) rfl rfl Try.func15 (by kernel_rfl) rfl #[.agg #[.slice A0_0 l0_0.length c0_0, .slice A0_1 l0_1.length c0_1], .int .i64 a1, .slice A2 l2.length c2] rfl (by (try simp only [List.map_toArray, List.map_cons, List.map_nil]); first | done | rfl) ?_; (with_reducible refine (impl_VoltageValid.calls k _ _ l0_0 _ _ l0_1 a1 _ _ l2 false _ ?side1 ?side2 ?side3 ?side4 ?side5 ?side6 A7.out).mono ?_); (case side1 => repeat (first | exact (cB HR0_0.out HB.out) | (with_reducible refine cA ?_ _) | (with_reducible refine cN ?_ _) | (with_reducible refine cD ?_))); (case side2 => exact HC0_0.out); (case side3 => repeat (first | exact (cB HR0_1.out HB.out) | (with_reducible refine cA ?_ _) | (with_reducible refine cN ?_ _) | (with_reducible refine cD ?_))); (case side4 => exact HC0_1.out); (case side5 => repeat (first | exact (cB HR2.out HB.out) | (with_reducible refine cA ?_ _) | (with_reducible refine cN ?_ _) | (with_reducible refine cD ?_))); (case side6 => exact HC2.out); rintro e w16 ⟨rfl, hb⟩; refine ⟨_, rfl, ?_⟩; replace BK410 := zK BK410 hb; replace HB := zB HB hb; (try clear hb)))
  go_meet
  case rel => exact ⟨_, (true), zt, H', zo, ⟨zK_ BK410⟩, ⟨zB_ HB⟩⟩
 case rest =>
  clear HC5; (try clear c1); (try clear c2); (try clear p2); (try clear c8); (try clear c9); (try clear c9b0); (try clear c15); (try clear hcz10_0); (try clear hcz10_1); (try clear hcz12_0); (try clear hcz12_1); (try clear hcz14_0); (try clear hcz14_1); (try clear hcz15_0); (try clear hcz15_1); (try clear hfz10_0); (try clear hfz10_1); (try clear hfz12_0); (try clear hfz12_1); (try clear hfz14_0); (try clear hfz14_1); (try clear hfz15_0); (try clear hfz15_1); obtain ⟨kq, x29_4, rfl, HA, HJ4, BK410, HB⟩ := hcut
  cases kq with
  | zero => exact absurd HA.out (by simp [impl_CoverWinding.j0])
  | succ kj4 =>
   have H := HA.out; clear HA; simp only [impl_CoverWinding.j0] at H
   by_cases c17 : x29_4 = true
   ·subst c17
    have H1 : (some (([] : List Int), false)) = some (r1, r2) := by rw [if_pos rfl] at H; exact H
    clear H; have H := H1; clear H1; simp only [Option.some.injEq, Prod.mk.injEq] at H; obtain ⟨rfl, rfl⟩ := H
    go_wp2
    go_ret2
    exact ⟨_, by first | rfl | (simp [*] <;> rfl), by first | exact Kd.R_nil _ _ _ _ _ | exact Kd.N_nil _ _ _ _ _ | exact Kd.V_nil _ _ _ _ _ | exact Kd.Q_nil _ _ _ _ _ | exact Kd.S_nil _ _ _ _ _, zB_ HB⟩
   replace c17 := Bool.eq_false_iff.mpr c17; subst c17
   have H1 : ((impl_mul.f kj4 l0_1 l0_0).bind fun t412 => ((impl_cyclesOf.f kj4 t412).bind fun t415 => (impl_CoverWinding.l0 kj4 a1 l2 a3 t415 (t415.length : Int) 0 l0_0 l0_1))) = some (r1, r2) := by rw [if_neg (show ¬ (false = true) by decide)] at H; exact H
   clear H; have H := H1; clear H1; obtain ⟨t412, A18, H⟩ := zbind H; obtain ⟨t415, A19, H⟩ := zbind H; have H' := A0_ H; clear H
   have hcz20_0 : wc.cell? ⟨gb410, 0, none⟩ = some (.slice A0_0 l0_0.length c0_0) := (kC BK410.out 0).trans rfl
   have hcz20_1 : wc.cell? ⟨gb410, 1, none⟩ = some (.slice A0_1 l0_1.length c0_1) := (kC BK410.out 1).trans rfl
   have hfz20_0 := kF BK410.out 0; have hfz20_1 := kF BK410.out 1
   go_wp2_with (first | ((with_reducible refine gC (f := 29) rfl ?_); refine goesL_ (some 34) rfl rfl Try.func29 (by kernel_rfl) rfl #[.slice A0_1 l0_1.length c0_1, .slice A0_0 l0_0.length c0_0] rfl (by (try simp only [List.map_toArray, List.map_cons, List.map_nil]); first | done | rfl) ?_; (with_reducible refine (impl_mul.calls kj4 _ _ l0_1 _ _ l0_0 t412 _ ?side1 ?side2 ?side3 ?side4 A18.out).mono ?_); (case side1 => repeat (first | exact (cB HR0_1.out HB.out) | (with_reducible refine cA ?_ _) | (with_reducible refine cN ?_ _) | (with_reducible refine cD ?_))); (case side2 => exact HC0_1.out); (case side3 => repeat (first | exact (cB HR0_0.out HB.out) | (with_reducible refine cA ?_ _) | (with_reducible refine cN ?_ _) | (with_reducible refine cD ?_))); (case side4 => exact HC0_0.out); rintro e w21 ⟨v413, rfl, ho0, hb⟩; refine ⟨_, rfl, ?_⟩; have HO414 := A0_ (rL ho0 (bZ (zB_ HB))); replace BK410 := zK BK410 hb; replace HB := zB HB hb; (try clear hb); (try clear ho0); obtain ⟨Ao22, co22, eo22⟩ := rS HO414.out; subst eo22) | ((with_reducible refine gC (f := 32) rfl ?_); refine goesL_ (some 35) rfl rfl Try.func32 (by kernel_rfl) rfl #[.slice Ao22 t412.length co22] rfl (by (try simp only [List.map_toArray, List.map_cons, List.map_nil]); first | done | rfl) ?_; (with_reducible refine (impl_cyclesOf.calls kj4 _ _ t412 t415 _ ?side1 ?side2 A19.out).mono ?_); (case side1 => repeat (first | exact (rR HO414.out).2.2 | (with_reducible refine cA ?_ _) | (with_reducible refine cN ?_ _) | (with_reducible refine cD ?_))); (case side2 => exact (rR HO414.out).2.1); rintro e w23 ⟨v416, rfl, ho0, hb⟩; refine ⟨_, rfl, ?_⟩; have HO417 := A0_ (Kd.S_lower (Kd.S_new' ho0 (rX (zR_ HO414))) (bZ (zB_ HB))); replace HO414 := zR HO414 hb; replace BK410 := zK BK410 hb; replace HB := zB HB hb; (try clear hb); (try clear ho0); obtain ⟨Ao24, co24, eo24⟩ := Kd.S_slice HO417.out; subst eo24))
   go_loopg [37] kj4 (fun kq v37 w' => ∃ (x37_2 : Int), v37 = .int .i64 x37_2 ∧ Aside0 (impl_CoverWinding.l0 kq a1 l2 a3 t415 (t415.length : Int) x37_2 l0_0 l0_1 = some (r1, r2)) ∧ Aside0 (kq ≤ kj4) ∧ Aside0 (Kd.S (Kd.slice 3 (Kd.int .i64)) 23 w' w.heap.size (fun _ => True) (.slice Ao24 t415.length co24) t415) ∧ Aside0 (w'.heap[gb410]? = some (.cells #[(.slice A0_0 l0_0.length c0_0), (.slice A0_1 l0_1.length c0_1)] 25 (0, 0))) ∧ Aside0 (Below w.heap.size w w'))
   case atStart => exact ⟨(0), zt, H', ⟨Nat.le_refl _⟩, ⟨zmS HO417 (fun _ hk => trivial)⟩, ⟨zK_ BK410⟩, ⟨zB_ HB⟩⟩
   case round =>
    clear H'; (try clear c1); (try clear c2); (try clear p2); (try clear c3); (try clear c8); (try clear c9); (try clear c9b0); (try clear c15); (try clear c17); (try clear c18); (try clear hcz10_0); (try clear hcz10_1); (try clear hcz12_0); (try clear hcz12_1); (try clear hcz14_0); (try clear hcz14_1); (try clear hcz15_0); (try clear hcz15_1); (try clear hcz20_0); (try clear hcz20_1); (try clear hfz10_0); (try clear hfz10_1); (try clear hfz12_0); (try clear hfz12_1); (try clear hfz14_0); (try clear hfz14_1); (try clear hfz15_0); (try clear hfz15_1); (try clear hfz20_0); (try clear hfz20_1); (try clear p2); obtain ⟨x37_2, rfl, HA, HK2, HO_35, BK410, HB⟩ := hrel
    cases gk with
    | zero => exact absurd HA.out (by simp [impl_CoverWinding.l0])
    | succ k2 =>
     have H := HA.out; clear HA; simp only [impl_CoverWinding.l0] at H
     by_cases c25 : x37_2 < (t415.length : Int)
     ·rw [if_pos c25] at H
      have c25b0 : decide (x37_2 < (t415.length : Int)) = true := dT c25
      clear c25
      by_cases c26 : 0 ≤ x37_2
      ·rw [if_pos c26] at H
       have c26b0 : decide (0 ≤ x37_2) = true := dT c26
       clear c26
       by_cases c27 : x37_2 < (t415.length : Int)
       ·rw [if_pos c27] at H
        have c27b0 : decide (x37_2 < (t415.length : Int)) = true := dT c27
        clear c27; have H' := A0_ H; clear H
        have p418 : 0 ≤ (x37_2 : Int) := oD (by assumption)
        have q418 : x37_2 < (t415.length : Int) := oD (by assumption)
        obtain ⟨ad418, A418_0, c418_0, e418, hx418_0, hl418_0, hi418_0⟩ := at_L1 (Kd.S_reads' HO_35.out).2.2 x37_2 p418 q418
        cases e418
        obtain ⟨ce418, hce418, hMe418, hcc418⟩ := Kd.S_get HO_35.out [] x37_2 p418 (by first | exact q418 | exact oD (by assumption) | (have e_ := (Kd.S_reads' HO_35.out).1; omega))
        obtain ⟨ve418_0, rfl, ge418_0⟩ := hMe418; have hv418_0 := hcc418 0 _ rfl
        rw [Nat.add_zero, show ((Kd.slice 3 (Kd.int .i64))).sz = 1 from rfl, Nat.mul_one] at hv418_0
        replace hv418_0 := sI (hv418_0.symm.trans hx418_0)
        rw [hv418_0] at ge418_0
        have HL418_0 := A0_ (show Kd.R (Kd.int .i64) 3 _ _ _ _ (rd_L1 t415 x37_2) from ge418_0)
        clear hv418_0 ge418_0 hcc418 hce418; have HR418_0 := A0_ hi418_0; have HC418_0 := A0_ hl418_0; clear hi418_0 hl418_0; replace p418 := eq_true p418; replace q418 := eq_true q418
        go_wp2
        go_loopg [43] k2 (fun kq v43 w' => ∃ (x43_3 : Int), v43 = .int .i64 x43_3 ∧ Aside0 (impl_CoverWinding.l1 kq a1 l2 a3 (rd_L1 t415 x37_2) t415 (t415.length : Int) x37_2 (rd_L1 t415 x37_2) ((rd_L1 t415 x37_2).length : Int) x43_3 l0_0 l0_1 = some (r1, r2)) ∧ Aside0 (kq ≤ k2) ∧ Aside0 (Kd.S (Kd.slice 3 (Kd.int .i64)) 23 w' w.heap.size (fun _ => True) (.slice (some ad418) t415.length co24) t415) ∧ Aside0 (w'.heap[gb410]? = some (.cells #[(.slice A0_0 l0_0.length c0_0), (.slice A0_1 l0_1.length c0_1)] 25 (0, 0))) ∧ Aside0 (Kd.C (Kd.int .i64) w' A418_0 (rd_L1 t415 x37_2).length (rd_L1 t415 x37_2)) ∧ Aside0 (Below w.heap.size w w'))
        case atStart => exact ⟨(0), zt, H', ⟨Nat.le_refl _⟩, ⟨zS_ HO_35⟩, ⟨zK_ BK410⟩, ⟨by repeat (first | (with_reducible exact HR418_0.out) | (with_reducible refine cA ?_ _) | (with_reducible refine cN ?_ _) | (with_reducible refine cD ?_) | exact HR418_0.out)⟩, ⟨zB_ HB⟩⟩
        case round =>
         clear H'; (try clear c1); (try clear c2); (try clear p2); (try clear c3); (try clear c4); (try clear p4); (try clear q4); (try clear hx4); (try clear c8); (try clear c9); (try clear c9b0); (try clear c15); (try clear c17); (try clear c18); (try clear c25); (try clear c25b0); (try clear c26); (try clear c26b0); (try clear c27); (try clear c27b0); (try clear hcz10_0); (try clear hcz10_1); (try clear hcz12_0); (try clear hcz12_1); (try clear hcz14_0); (try clear hcz14_1); (try clear hcz15_0); (try clear hcz15_1); (try clear hcz20_0); (try clear hcz20_1); (try clear hfz10_0); (try clear hfz10_1); (try clear hfz12_0); (try clear hfz12_1); (try clear hfz14_0); (try clear hfz14_1); (try clear hfz15_0); (try clear hfz15_1); (try clear hfz20_0); (try clear hfz20_1); (try clear hx418_0); (try clear p2); (try clear p418); (try clear q418); obtain ⟨x43_3, rfl, HA, HK3, HO_35, BK410, HR418_0, HB⟩ := hrel
         cases gk with
         | zero => exact absurd HA.out (by simp [impl_CoverWinding.l1])
         | succ k3 =>
          have H := HA.out; clear HA; simp only [impl_CoverWinding.l1] at H
          by_cases c28 : x43_3 < ((rd_L1 t415 x37_2).length : Int)
          ·rw [if_pos c28] at H
           have c28b0 : decide (x43_3 < ((rd_L1 t415 x37_2).length : Int)) = true := dT c28
           clear c28
           by_cases c29 : 0 ≤ x43_3
           ·rw [if_pos c29] at H
            have c29b0 : decide (0 ≤ x43_3) = true := dT c29
            clear c29
            by_cases c30 : x43_3 < ((rd_L1 t415 x37_2).length : Int)
            ·rw [if_pos c30] at H
             have c30b0 : decide (x43_3 < ((rd_L1 t415 x37_2).length : Int)) = true := dT c30
             clear c30
             by_cases c31 : (rd (rd_L1 t415 x37_2) x43_3) = a3
             ·rw [if_pos c31] at H
              have c31b0 : ((rd (rd_L1 t415 x37_2) x43_3) == a3) = true := beq_iff_eq.mpr c31
              have c31b1 : ((rd (rd_L1 t415 x37_2) x43_3) != a3) = false := bne_eq_false_iff_eq.mpr c31
              clear c31; obtain ⟨t420, A32, H⟩ := zbind H; simp only [Option.some.injEq, Prod.mk.injEq] at H; obtain ⟨rfl, rfl⟩ := H
              have p419 : 0 ≤ (x43_3 : Int) := oD (by assumption)
              have q419 : x43_3 < ((rd_L1 t415 x37_2).length : Int) := oD (by assumption)
              obtain ⟨ad419, e419, hx419_0⟩ := tI HR418_0.out x43_3 p419 q419
              cases e419
              try replace hx419_0 := (HB.out.cell (wL w _ hx419_0)).trans hx419_0
              replace p419 := eq_true p419; replace q419 := eq_true q419
              have hcz33_0 : wr.cell? ⟨gb410, 0, none⟩ = some (.slice A0_0 l0_0.length c0_0) := (kC BK410.out 0).trans rfl
              have hcz33_1 : wr.cell? ⟨gb410, 1, none⟩ = some (.slice A0_1 l0_1.length c0_1) := (kC BK410.out 1).trans rfl
              have hfz33_0 := kF BK410.out 0; have hfz33_1 := kF BK410.out 1
              go_wp2_with (first | ((with_reducible refine gC (f := 33) rfl ?_); refine goesL_ (some 54) rfl rfl Try.func33 (by kernel_rfl) rfl #[.agg #[.slice A0_0 l0_0.length c0_0, .slice A0_1 l0_1.length c0_1], .int .i64 a1, .slice A2 l2.length c2, .slice (some ad419) (rd_L1 t415 x37_2).length c418_0] rfl (by (try simp only [List.map_toArray, List.map_cons, List.map_nil]); first | done | rfl) ?_; (with_reducible refine (impl_winding.calls k3 _ _ l0_0 _ _ l0_1 a1 _ _ l2 _ _ (rd_L1 t415 x37_2) t420 _ ?side1 ?side2 ?side3 ?side4 ?side5 ?side6 ?side7 ?side8 A32.out).mono ?_); (case side1 => repeat (first | exact (cB HR0_0.out HB.out) | (with_reducible refine cA ?_ _) | (with_reducible refine cN ?_ _) | (with_reducible refine cD ?_))); (case side2 => exact HC0_0.out); (case side3 => repeat (first | exact (cB HR0_1.out HB.out) | (with_reducible refine cA ?_ _) | (with_reducible refine cN ?_ _) | (with_reducible refine cD ?_))); (case side4 => exact HC0_1.out); (case side5 => repeat (first | exact (cB HR2.out HB.out) | (with_reducible refine cA ?_ _) | (with_reducible refine cN ?_ _) | (with_reducible refine cD ?_))); (case side6 => exact HC2.out); (case side7 => repeat (first | (with_reducible exact HR418_0.out) | exact (cB HR418_0.out HB.out) | (with_reducible refine cA ?_ _) | (with_reducible refine cN ?_ _) | (with_reducible refine cD ?_))); (case side8 => exact HC418_0.out); rintro e w34 ⟨v421, rfl, ho0, hb⟩; refine ⟨_, rfl, ?_⟩; replace HO_35 := A0_ (Kd.S_elder' (zS_ HO_35) (Kd.R_base ho0) hb); have HO422 := A0_ (rL ho0 (bZ (zB_ HB))); replace BK410 := zK BK410 hb; replace HR418_0 := A0_ (cB (by repeat (first | (with_reducible exact HR418_0.out) | (with_reducible refine cA ?_ _) | (with_reducible refine cN ?_ _) | (with_reducible refine cD ?_) | exact HR418_0.out)) hb); replace HB := zB HB hb; (try clear hb); (try clear ho0)))
              go_ret2
              exact ⟨_, by first | rfl | (simp [*] <;> rfl), zR_ HO422, zB_ HB⟩
             rw [if_neg c31] at H
             have c31b0 : ((rd (rd_L1 t415 x37_2) x43_3) == a3) = false := beq_eq_false_iff_ne.mpr c31
             have c31b1 : ((rd (rd_L1 t415 x37_2) x43_3) != a3) = true := bne_iff_ne.mpr c31
             have H' := A0_ H; clear H
             have p419 : 0 ≤ (x43_3 : Int) := oD (by assumption)
             have q419 : x43_3 < ((rd_L1 t415 x37_2).length : Int) := oD (by assumption)
             obtain ⟨ad419, e419, hx419_0⟩ := tI HR418_0.out x43_3 p419 q419
             cases e419
             try replace hx419_0 := (HB.out.cell (wL w _ hx419_0)).trans hx419_0
             replace p419 := eq_true p419; replace q419 := eq_true q419
             go_wp2
             go_roundg k3
             case measure => have := HJ4.out; have := HK2.out; have := HK3.out; omega
             case rel => exact ⟨(wrap64 (x43_3 + 1)), zt, H', ⟨by have := HJ4.out; have := HK2.out; have := HK3.out; omega⟩, ⟨zS_ HO_35⟩, ⟨zK_ BK410⟩, ⟨by repeat (first | (with_reducible exact HR418_0.out) | (with_reducible refine cA ?_ _) | (with_reducible refine cN ?_ _) | (with_reducible refine cD ?_) | exact HR418_0.out)⟩, ⟨zB_ HB⟩⟩
            rw [if_neg c30] at H
            exact absurd H (by simp)
           rw [if_neg c29] at H
           exact absurd H (by simp)
          rw [if_neg c28] at H
          have c28b0 : decide (x43_3 < ((rd_L1 t415 x37_2).length : Int)) = false := dF c28
          clear c28; have H' := A0_ H; clear H
          go_wp2
          go_roundg k3
          case measure => have := HJ4.out; have := HK2.out; have := HK3.out; omega
          case rel => exact ⟨(wrap64 (x37_2 + 1)), zt, H', ⟨by have := HJ4.out; have := HK2.out; have := HK3.out; omega⟩, ⟨zS_ HO_35⟩, ⟨zK_ BK410⟩, ⟨zB_ HB⟩⟩
       rw [if_neg c27] at H
       exact absurd H (by simp)
      rw [if_neg c26] at H
      exact absurd H (by simp)
     rw [if_neg c25] at H
     have c25b0 : decide (x37_2 < (t415.length : Int)) = false := dF c25
     clear c25; simp only [Option.some.injEq, Prod.mk.injEq] at H; obtain ⟨rfl, rfl⟩ := H
     go_wp2
     go_ret2
     exact ⟨_, by first | rfl | (simp [*] <;> rfl), by first | exact Kd.R_nil _ _ _ _ _ | exact Kd.N_nil _ _ _ _ _ | exact Kd.V_nil _ _ _ _ _ | exact Kd.Q_nil _ _ _ _ _ | exact Kd.S_nil _ _ _ _ _, zB_ HB⟩

end Go.Proofs.Ytlckmmnpcljhoaa.PFnVoltage
