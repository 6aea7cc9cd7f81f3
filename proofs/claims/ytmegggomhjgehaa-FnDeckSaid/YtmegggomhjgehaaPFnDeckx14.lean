-- Made by a program of this session (wip/tools) out of the loaded program; not trusted: Lean checks it.
import Derived.Test.YtmegggomhjgehaaPFnDeckx0
import Derived.Test.YtmegggomhjgehaaPFnDeckx3
import Derived.Test.YtmegggomhjgehaaPFnDeckx9
-- packed
namespace Go.Proofs.Ytmegggomhjgehaa.PFnDeck
open Go.RowKit Go.Proofs.YtmegggomhjgehaaW.PrintWords Go.Proofs.YtmegggomhjgehaaW.PrintLast Go.Proofs.YtmegggomhjgehaaW.PrintMore
attribute [local go_sem] max2_int min2_int max_two min_two max_three min_three max_four min_four   -- for this text's walks alone
set_option linter.unusedVariables false
set_option linter.unusedSimpArgs false

/-! ### impl_renamed: function 83 -/
def impl_renamed.f (k : Nat) (l0_0 : List Int) (l0_1 : List Int) (l1 : List Int) : Option (List Int × List Int) := (impl_back.f k l1).bind fun t489 => ((impl_mul.f k t489 l0_0).bind fun t492 => ((impl_mul.f k t492 l1).bind fun t495 => ((impl_back.f k l1).bind fun t498 => ((impl_mul.f k t498 l0_1).bind fun t501 => ((impl_mul.f k t501 l1).bind fun t504 => (some (t495, t504)))))))
def impl_renamed.T1 : Bool × List (List Nat × List Nat) := (true, [([], []), ([0], [0]), ([], []), ([2], [2]), ([1, 3, 1], [1, 3]), ([], []), ([4, 5, 4], [4, 5]), ([], []), ([7, 6], [7]), ([], []), ([9], [9]), ([8, 10, 8], [8, 10]), ([], []), ([11, 12, 11], [11, 12]), ([6, 13], [6, 13]), ([14, 13, 0, 1, 2, 3, 4, 5, 6, 7, 8, 9, 10, 11, 12, 13, 14], [14])])
def impl_renamed.B1 : List Nat := [0, 1, 0, 4, 15, 0, 63, 0, 255, 0, 512, 2047, 0, 8191, 16383, 32767]
theorem impl_renamed.tab1 : rtab .any (opsOf Try.f83 1) = impl_renamed.T1 := by kernel_rfl
theorem impl_renamed.bits1 : waitsOk impl_renamed.T1.2 impl_renamed.B1 = true := by kernel_rfl
set_option maxHeartbeats 8000000 in
set_option maxRecDepth 100000 in
theorem impl_renamed.calls (k : Nat) (A0_0 : Option Addr) (c0_0 : Nat) (l0_0 : List Int) (A0_1 : Option Addr) (c0_1 : Nat) (l0_1 : List Int) (A1 : Option Addr) (c1 : Nat) (l1 : List Int) (r1 : List Int) (r2 : List Int) (w : World) (hr0_0 : Kd.C (Kd.int .i64) w A0_0 l0_0.length l0_0) (hc0_0 : l0_0.length ≤ c0_0) (hr0_1 : Kd.C (Kd.int .i64) w A0_1 l0_1.length l0_1) (hc0_1 : l0_1.length ≤ c0_1) (hr1 : Kd.C (Kd.int .i64) w A1 l1.length l1) (hc1 : l1.length ≤ c1) (h : impl_renamed.f k l0_0 l0_1 l1 = some (r1, r2)) :
    Calls Try.prog 83 #[.agg #[.slice A0_0 l0_0.length c0_0, .slice A0_1 l0_1.length c0_1], .slice A1 l1.length c1] w fun e w' => ∃ v0_ v1_ : Value, e = .returned (.agg #[v0_, v1_]) ∧ Kd.R (Kd.int .i64) 3 w' w.heap.size (fun k_ => some k_ ≠ (v1_ : Value).ownBlock) v0_ r1 ∧ Kd.R (Kd.int .i64) 3 w' w.heap.size (fun k_ => some k_ ≠ (v0_ : Value).ownBlock) v1_ r2 ∧ Below w.heap.size w w' := by
 have hu25 := Try.underlying25; have HR0_0 := A0_ hr0_0; have HC0_0 := A0_ hc0_0; clear hr0_0 hc0_0; have HR0_1 := A0_ hr0_1; have HC0_1 := A0_ hc0_1; clear hr0_1 hc0_1; have HR1 := A0_ hr1; have HC1 := A0_ hc1; clear hr1 hc1
 have HB := A0_ (Below.refl w.heap.size w)
 have H : ((impl_back.f k l1).bind fun t489 => ((impl_mul.f k t489 l0_0).bind fun t492 => ((impl_mul.f k t492 l1).bind fun t495 => ((impl_back.f k l1).bind fun t498 => ((impl_mul.f k t498 l0_1).bind fun t501 => ((impl_mul.f k t501 l1).bind fun t504 => (some (t495, t504)))))))) = some (r1, r2) := h
 clear h; obtain ⟨t489, A3, H⟩ := zbind H; obtain ⟨t492, A4, H⟩ := zbind H; obtain ⟨t495, A5, H⟩ := zbind H; obtain ⟨t498, A6, H⟩ := zbind H; obtain ⟨t501, A7, H⟩ := zbind H; obtain ⟨t504, A8, H⟩ := zbind H; simp only [Option.some.injEq, Prod.mk.injEq] at H; obtain ⟨rfl, rfl⟩ := H
 go_enter Try.func83, Try.ntmps83
 try go_wp2_with (first | ((with_reducible refine gD (N := 2) rfl ?_); refine zX (N := 2) (cs := #[.slice A0_0 l0_0.length c0_0, .slice A0_1 l0_1.length c0_1]) (t := 25) ?_; intro gb487 hg w9 hbox hb; have BK487 := A0_ (hbox); have GW487 := zG hg HB; have GE487 := zG hg HB; replace HB := zB HB hb; clear hb hbox hg) | ((with_reducible refine gD (N := 4) rfl ?_); refine zX (N := 4) (cs := #[.slice none 0 0, .slice none 0 0]) (t := 25) ?_; intro gb488 hg w10 hbox hb; have BK488 := A0_ (hbox); have GW488 := zG hg HB; have GE488 := zG hg HB; replace HB := zB HB hb; have NB487_488 := zL hg BK487; have NB488_487 := zM hg BK487; replace BK487 := zK BK487 hb; clear hb hbox hg))
 replace BK487 := A0_ (kD BK487.out)
 replace BK488 := A0_ (kD BK488.out)
 replace HB := A0_ (bD HB.out)
 refine start_ (n := 16) (S := fun w' => w'.cell? ⟨gb487, 0, none⟩ = some (.slice A0_0 l0_0.length c0_0) ∧ w'.cell? ⟨gb487, 1, none⟩ = some (.slice A0_1 l0_1.length c0_1)) (ds := []) #[false, false, false, false, false, false, false, false, false, false, false, false, false, false, false, false] (by kernel_rfl) rfl rfl ⟨(kC BK487.out 0).trans rfl, (kC BK487.out 1).trans rfl⟩ (fun hHeld => ?_); refine with_tabW impl_renamed.tab1 impl_renamed.bits1 (fun HT_ HW_ => ?_)
 generalize w10.drew = w11 at BK487 BK488 HB hHeld ⊢
 refine zP 0 (some 5) #[true,false,false,false,false,false,false,false,false,false,false,false,false,false,false,false] ?_
 refine zP 2 (some 7) #[true,false,true,false,false,false,false,false,false,false,false,false,false,false,false,false] ?_
 refine zP 5 (some 10) #[true,false,true,false,false,true,false,false,false,false,false,false,false,false,false,false] ?_
 refine zP 7 (some 12) #[true,false,true,false,false,true,false,true,false,false,false,false,false,false,false,false] ?_
 refine zP 9 (some 14) #[true,false,true,false,false,true,false,true,false,true,false,false,false,false,false,false] ?_
 refine zP 12 (some 17) #[true,false,true,false,false,true,false,true,false,true,false,false,true,false,false,false] ?_
 refine take_ (i := 3) (N := some 8) (v := ?_) (a' := ?_) #[true, false, true, true, false, true, false, true, false, true, false, false, true, false, false, false] rfl rfl (take_ofW HT_.out HW_.out (by kernel_rfl)) (fun _ _ _ h => h) (Or.inl ⟨by rfl, ?_⟩) hHeld ?_ ?_
 rotate_left
 ·rintro w' ⟨s0, s1⟩
  go_simp
  with_reducible rfl
 rotate_left
 ·simp only [Act.put, List.setIfInBounds_toArray, List.set_cons_zero, List.set_cons_succ, i64_w, i32_w]
  rfl
 refine take_ (i := 10) (N := some 15) (v := ?_) (a' := ?_) #[true, false, true, true, false, true, false, true, false, true, true, false, true, false, false, false] rfl rfl (take_ofW HT_.out HW_.out (by kernel_rfl)) (fun _ _ _ h => h) (Or.inl ⟨by rfl, ?_⟩) hHeld ?_ ?_
 rotate_left
 ·rintro w' ⟨s0, s1⟩
  go_simp
  with_reducible rfl
 rotate_left
 ·simp only [Act.put, List.setIfInBounds_toArray, List.set_cons_zero, List.set_cons_succ, i64_w, i32_w]
  rfl
 refine one_ (i := 1) (N := some 6) #[true, true, true, true, false, true, false, true, false, true, true, false, true, false, false, false] rfl rfl (one_of HT_.out (by kernel_rfl)) (by decide) (fun K hK => ?_)
 refine goes_ Try.func60 (by kernel_rfl) rfl #[.slice A1 l1.length c1] (by rfl) rfl rfl (by (try simp only [List.map_toArray, List.map_cons, List.map_nil]); first | done | rfl | (simp only [List.length_drop, List.length_take]; rfl)) ?_
 with_reducible refine (impl_back.calls k _ _ l1 t489 _ ?side1 ?side2 A3.out).mono ?_
 (case side1 => exact zC HR1 HB)
 (case side2 => exact HC1.out)
 rintro e w12 ⟨v490, rfl, ho0, hb⟩
 refine ⟨_, rfl, ?_⟩
 have HO491 := A0_ (rL ho0 (bZ (zB_ HB)))
 replace BK487 := zK BK487 hb; replace BK488 := zK BK488 hb; replace HB := zB HB hb; (try clear hb); (try clear hb2); (try clear hk); (try clear hi); (try clear ho0); obtain ⟨Ao13, co13, eo13⟩ := rS HO491.out
 (first | subst eo13 | (injection eo13 with f1_ f2_ f3_; have f4_ := f1_.symm; have f5_ := f3_.symm; clear f1_ f2_ f3_; subst f4_; subst f5_))
 refine hK.out _ _ ⟨(kC BK487.out 0).trans rfl, (kC BK487.out 1).trans rfl⟩ (fun hHeld => ?_)
 clear hK K
 refine norm_ (a' := ?_) ?_ ?_
 rotate_left
 ·show Act.put _ (some 6) _ = _
  simp only [Act.put, List.setIfInBounds_toArray, List.set_cons_zero, List.set_cons_succ, i64_w, i32_w]
  rfl
 refine one_ (i := 4) (N := some 9) #[true, true, true, true, true, true, false, true, false, true, true, false, true, false, false, false] rfl rfl (one_of HT_.out (by kernel_rfl)) (by decide) (fun K hK => ?_)
 refine goes_ Try.func69 (by kernel_rfl) rfl #[.slice Ao13 t489.length co13, .slice A0_0 l0_0.length c0_0] (by rfl) rfl rfl (by (try simp only [List.map_toArray, List.map_cons, List.map_nil]); first | done | rfl | (simp only [List.length_drop, List.length_take]; rfl)) ?_
 with_reducible refine (impl_mul.calls k _ _ t489 _ _ l0_0 t492 _ ?side1 ?side2 ?side3 ?side4 A4.out).mono ?_
 (case side1 => exact zD HO491)
 (case side2 => exact (rR HO491.out).2.1)
 (case side3 => exact zC HR0_0 HB)
 (case side4 => exact HC0_0.out)
 rintro e w14 ⟨v493, rfl, ho0, hb⟩
 refine ⟨_, rfl, ?_⟩
 have HO494 := A0_ (rL (Kd.R_new' ho0 (rX (zR_ HO491))) (bZ (zB_ HB)))
 replace HO491 := A0_ (Kd.R_elder' (zR_ HO491) (Kd.R_base ho0) hb)
 replace BK487 := zK BK487 hb; replace BK488 := zK BK488 hb; replace HB := zB HB hb; (try clear hb); (try clear hb2); (try clear hk); (try clear hi); (try clear ho0); obtain ⟨Ao15, co15, eo15⟩ := rS HO494.out
 (first | subst eo15 | (injection eo15 with f1_ f2_ f3_; have f4_ := f1_.symm; have f5_ := f3_.symm; clear f1_ f2_ f3_; subst f4_; subst f5_))
 refine hK.out _ _ ⟨(kC BK487.out 0).trans rfl, (kC BK487.out 1).trans rfl⟩ (fun hHeld => ?_)
 clear hK K
 refine norm_ (a' := ?_) ?_ ?_
 rotate_left
 ·show Act.put _ (some 9) _ = _
  simp only [Act.put, List.setIfInBounds_toArray, List.set_cons_zero, List.set_cons_succ, i64_w, i32_w]
  rfl
 refine one_ (i := 6) (N := some 11) #[true, true, true, true, true, true, true, true, false, true, true, false, true, false, false, false] rfl rfl (one_of HT_.out (by kernel_rfl)) (by decide) (fun K hK => ?_)
 refine goes_ Try.func69 (by kernel_rfl) rfl #[.slice Ao15 t492.length co15, .slice A1 l1.length c1] (by rfl) rfl rfl (by (try simp only [List.map_toArray, List.map_cons, List.map_nil]); first | done | rfl | (simp only [List.length_drop, List.length_take]; rfl)) ?_
 with_reducible refine (impl_mul.calls k _ _ t492 _ _ l1 t495 _ ?side1 ?side2 ?side3 ?side4 A5.out).mono ?_
 (case side1 => exact zD HO494)
 (case side2 => exact (rR HO494.out).2.1)
 (case side3 => exact zC HR1 HB)
 (case side4 => exact HC1.out)
 rintro e w16 ⟨v496, rfl, ho0, hb⟩
 refine ⟨_, rfl, ?_⟩
 have HO497 := A0_ (rL (Kd.R_new' (Kd.R_new' ho0 (rX (zR_ HO491))) (rX (zR_ HO494))) (bZ (zB_ HB)))
 replace HO491 := A0_ (Kd.R_elder' (zR_ HO491) (Kd.R_base ho0) hb)
 replace HO494 := A0_ (Kd.R_elder' (zR_ HO494) (Kd.R_base ho0) hb)
 replace BK487 := zK BK487 hb; replace BK488 := zK BK488 hb; replace HB := zB HB hb; (try clear hb); (try clear hb2); (try clear hk); (try clear hi); (try clear ho0)
 refine hK.out _ _ ⟨(kC BK487.out 0).trans rfl, (kC BK487.out 1).trans rfl⟩ (fun hHeld => ?_)
 clear hK K
 refine norm_ (a' := ?_) ?_ ?_
 rotate_left
 ·show Act.put _ (some 11) _ = _
  simp only [Act.put, List.setIfInBounds_toArray, List.set_cons_zero, List.set_cons_succ, i64_w, i32_w]
  rfl
 refine one_ (i := 8) (N := some 13) #[true, true, true, true, true, true, true, true, true, true, true, false, true, false, false, false] rfl rfl (one_of HT_.out (by kernel_rfl)) (by decide) (fun K hK => ?_)
 refine goes_ Try.func60 (by kernel_rfl) rfl #[.slice A1 l1.length c1] (by rfl) rfl rfl (by (try simp only [List.map_toArray, List.map_cons, List.map_nil]); first | done | rfl | (simp only [List.length_drop, List.length_take]; rfl)) ?_
 with_reducible refine (impl_back.calls k _ _ l1 t498 _ ?side1 ?side2 A6.out).mono ?_
 (case side1 => exact zC HR1 HB)
 (case side2 => exact HC1.out)
 rintro e w17 ⟨v499, rfl, ho0, hb⟩
 refine ⟨_, rfl, ?_⟩
 have HO500 := A0_ (rL (Kd.R_new' (Kd.R_new' (Kd.R_new' ho0 (rX (zR_ HO491))) (rX (zR_ HO494))) (rX (zR_ HO497))) (bZ (zB_ HB)))
 replace HO491 := A0_ (Kd.R_elder' (zR_ HO491) (Kd.R_base ho0) hb)
 replace HO494 := A0_ (Kd.R_elder' (zR_ HO494) (Kd.R_base ho0) hb)
 replace HO497 := A0_ (Kd.R_elder' (zR_ HO497) (Kd.R_base ho0) hb)
 replace BK487 := zK BK487 hb; replace BK488 := zK BK488 hb; replace HB := zB HB hb; (try clear hb); (try clear hb2); (try clear hk); (try clear hi); (try clear ho0); obtain ⟨Ao18, co18, eo18⟩ := rS HO500.out
 (first | subst eo18 | (injection eo18 with f1_ f2_ f3_; have f4_ := f1_.symm; have f5_ := f3_.symm; clear f1_ f2_ f3_; subst f4_; subst f5_))
 refine hK.out _ _ ⟨(kC BK487.out 0).trans rfl, (kC BK487.out 1).trans rfl⟩ (fun hHeld => ?_)
 clear hK K
 refine norm_ (a' := ?_) ?_ ?_
 rotate_left
 ·show Act.put _ (some 13) _ = _
  simp only [Act.put, List.setIfInBounds_toArray, List.set_cons_zero, List.set_cons_succ, i64_w, i32_w]
  rfl
 refine one_ (i := 11) (N := some 16) #[true, true, true, true, true, true, true, true, true, true, true, true, true, false, false, false] rfl rfl (one_of HT_.out (by kernel_rfl)) (by decide) (fun K hK => ?_)
 refine goes_ Try.func69 (by kernel_rfl) rfl #[.slice Ao18 t498.length co18, .slice A0_1 l0_1.length c0_1] (by rfl) rfl rfl (by (try simp only [List.map_toArray, List.map_cons, List.map_nil]); first | done | rfl | (simp only [List.length_drop, List.length_take]; rfl)) ?_
 with_reducible refine (impl_mul.calls k _ _ t498 _ _ l0_1 t501 _ ?side1 ?side2 ?side3 ?side4 A7.out).mono ?_
 (case side1 => exact zD HO500)
 (case side2 => exact (rR HO500.out).2.1)
 (case side3 => exact zC HR0_1 HB)
 (case side4 => exact HC0_1.out)
 rintro e w19 ⟨v502, rfl, ho0, hb⟩
 refine ⟨_, rfl, ?_⟩
 have HO503 := A0_ (rL (Kd.R_new' (Kd.R_new' (Kd.R_new' (Kd.R_new' ho0 (rX (zR_ HO491))) (rX (zR_ HO494))) (rX (zR_ HO497))) (rX (zR_ HO500))) (bZ (zB_ HB)))
 replace HO491 := A0_ (Kd.R_elder' (zR_ HO491) (Kd.R_base ho0) hb)
 replace HO494 := A0_ (Kd.R_elder' (zR_ HO494) (Kd.R_base ho0) hb)
 replace HO497 := A0_ (Kd.R_elder' (zR_ HO497) (Kd.R_base ho0) hb)
 replace HO500 := A0_ (Kd.R_elder' (zR_ HO500) (Kd.R_base ho0) hb)
 replace BK487 := zK BK487 hb; replace BK488 := zK BK488 hb; replace HB := zB HB hb; (try clear hb); (try clear hb2); (try clear hk); (try clear hi); (try clear ho0); obtain ⟨Ao20, co20, eo20⟩ := rS HO503.out
 (first | subst eo20 | (injection eo20 with f1_ f2_ f3_; have f4_ := f1_.symm; have f5_ := f3_.symm; clear f1_ f2_ f3_; subst f4_; subst f5_))
 refine hK.out _ _ ⟨(kC BK487.out 0).trans rfl, (kC BK487.out 1).trans rfl⟩ (fun hHeld => ?_)
 clear hK K
 refine norm_ (a' := ?_) ?_ ?_
 rotate_left
 ·show Act.put _ (some 16) _ = _
  simp only [Act.put, List.setIfInBounds_toArray, List.set_cons_zero, List.set_cons_succ, i64_w, i32_w]
  rfl
 refine one_ (i := 13) (N := some 18) #[true, true, true, true, true, true, true, true, true, true, true, true, true, true, false, false] rfl rfl (one_of HT_.out (by kernel_rfl)) (by decide) (fun K hK => ?_)
 refine goes_ Try.func69 (by kernel_rfl) rfl #[.slice Ao20 t501.length co20, .slice A1 l1.length c1] (by rfl) rfl rfl (by (try simp only [List.map_toArray, List.map_cons, List.map_nil]); first | done | rfl | (simp only [List.length_drop, List.length_take]; rfl)) ?_
 with_reducible refine (impl_mul.calls k _ _ t501 _ _ l1 t504 _ ?side1 ?side2 ?side3 ?side4 A8.out).mono ?_
 (case side1 => exact zD HO503)
 (case side2 => exact (rR HO503.out).2.1)
 (case side3 => exact zC HR1 HB)
 (case side4 => exact HC1.out)
 rintro e w21 ⟨v505, rfl, ho0, hb⟩
 refine ⟨_, rfl, ?_⟩
 have HO506 := A0_ (rL (Kd.R_new' (Kd.R_new' (Kd.R_new' (Kd.R_new' (Kd.R_new' ho0 (rX (zR_ HO491))) (rX (zR_ HO494))) (rX (zR_ HO497))) (rX (zR_ HO500))) (rX (zR_ HO503))) (bZ (zB_ HB)))
 replace HO491 := A0_ (Kd.R_elder' (zR_ HO491) (Kd.R_base ho0) hb)
 replace HO494 := A0_ (Kd.R_elder' (zR_ HO494) (Kd.R_base ho0) hb)
 replace HO497 := A0_ (Kd.R_elder' (zR_ HO497) (Kd.R_base ho0) hb)
 replace HO500 := A0_ (Kd.R_elder' (zR_ HO500) (Kd.R_base ho0) hb)
 replace HO503 := A0_ (Kd.R_elder' (zR_ HO503) (Kd.R_base ho0) hb)
 replace BK487 := zK BK487 hb; replace BK488 := zK BK488 hb; replace HB := zB HB hb; (try clear hb); (try clear hb2); (try clear hk); (try clear hi); (try clear ho0); obtain ⟨Ao22, co22, eo22⟩ := rS HO506.out
 (first | subst eo22 | (injection eo22 with f1_ f2_ f3_; have f4_ := f1_.symm; have f5_ := f3_.symm; clear f1_ f2_ f3_; subst f4_; subst f5_))
 obtain ⟨Ao23, co23, eo23⟩ := rS HO497.out
 (first | subst eo23 | (injection eo23 with f1_ f2_ f3_; have f4_ := f1_.symm; have f5_ := f3_.symm; clear f1_ f2_ f3_; subst f4_; subst f5_))
 refine hK.out _ _ ⟨(kC BK487.out 0).trans rfl, (kC BK487.out 1).trans rfl⟩ (fun hHeld => ?_)
 clear hK K
 refine norm_ (a' := ?_) ?_ ?_
 rotate_left
 ·show Act.put _ (some 18) _ = _
  simp only [Act.put, List.setIfInBounds_toArray, List.set_cons_zero, List.set_cons_succ, i64_w, i32_w]
  rfl
 refine zP 14 (some 19) #[true,true,true,true,true,true,true,true,true,true,true,true,true,true,true,false] ?_
 refine one_ (i := 15) (N := none) #[true, true, true, true, true, true, true, true, true, true, true, true, true, true, true, true] rfl rfl (one_of HT_.out (by kernel_rfl)) (by decide) (fun K hK => ?_)
 have hs24 : w21.cell? ⟨gb488, 0, none⟩ = some (.slice none 0 0) := (kC BK488.out 0).trans rfl
 have hfs24 := kF BK488.out 0; have hns24_0 := NB487_488.out; have hms24_0 := NB488_487.out
 have hs25 : w21.cell? ⟨gb488, 1, none⟩ = some (.slice none 0 0) := (kC BK488.out 1).trans rfl
 have hfs25 := kF BK488.out 1; have hns25_0 := NB487_488.out; have hms25_0 := NB488_487.out
 refine skip_ (w1 := ?_) (by rfl) rfl ?_ ?_
 rotate_left
 ·go_simp
  rfl
 refine hK.out _ _ ⟨((cell_far (p := ⟨gb488, _, none⟩) NB487_488.out _).trans (((cell_far (p := ⟨gb488, _, none⟩) NB487_488.out _).trans (hHeld.1)))), ((cell_far (p := ⟨gb488, _, none⟩) NB487_488.out _).trans (((cell_far (p := ⟨gb488, _, none⟩) NB487_488.out _).trans (hHeld.2))))⟩ (fun hHeld => ?_)
 clear hK K
 refine done_ (done_of HT_.out (by kernel_rfl)) ?_
 try go_wp2
 refine bodyPost_ret (results_cell_row rfl _ _ gb488 25 #[.slice Ao23 t495.length co23, .slice Ao22 t504.length co22] (0, 0) _ rfl (by (with_reducible repeat (first | refine kN ?_ _ | refine kD ?_ | refine kA ?_ _)); refine blk_put (cs := #[.slice Ao23 t495.length co23, .slice none 0 0]) ?_ 1 _ rfl; (with_reducible repeat (first | refine kN ?_ _ | refine kD ?_ | refine kA ?_ _)); refine blk_put (cs := #[.slice none 0 0, .slice none 0 0]) ?_ 0 _ rfl; (with_reducible repeat (first | refine kN ?_ _ | refine kD ?_ | refine kA ?_ _)); exact BK488.out) Try.underlying25 rfl (by kernel_rfl)) rfl ?_
 exact ⟨_, _, by first | rfl | (simp [*] <;> rfl), by (with_reducible repeat (first | apply rA | apply rN | apply rD)); exact rM (rF (p := ⟨gb488, 1, none⟩) (rF (p := ⟨gb488, 0, none⟩) (rY HO497.out BK488.out (by decide)) (fun _ hk => hk.2) (.slice Ao23 t495.length co23)) (fun _ hk => hk.2) (.slice Ao22 t504.length co22)) (fun _ hk => hk.1.2), by (with_reducible repeat (first | apply rA | apply rN | apply rD)); exact rM (rF (p := ⟨gb488, 1, none⟩) (rF (p := ⟨gb488, 0, none⟩) (rY HO506.out BK488.out (by decide)) (fun _ hk => hk.2) (.slice Ao23 t495.length co23)) (fun _ hk => hk.2) (.slice Ao22 t504.length co22)) (fun _ hk => hk.1.1.1.2), zB_ HB⟩

/-! ### cmp_isNaN_int: function 119 -/
def cmp_isNaN_int.f (a0 : Int) : Option (Bool) := some (a0 != a0)
set_option maxHeartbeats 8000000 in
set_option maxRecDepth 100000 in
theorem cmp_isNaN_int.calls (a0 : Int) (r : Bool) (w : World) (h : cmp_isNaN_int.f a0 = some r) :
    Calls Try.prog 119 #[.int .i64 a0] w fun e w' => e = .returned (.bool r) ∧ Drawn0 w w' := by
 have H : (some (a0 != a0)) = some r := h
 clear h; obtain rfl := sI H
 go_enter Try.func119, Try.ntmps119
 go_wp2
 go_ret
 exact ⟨by first | rfl | (simp; done) | (simp [*]; done), by repeat (first | exact Drawn0.refl _ | apply Drawn0.step)⟩

/-! ### cmp_Compare_int: function 116 -/
def cmp_Compare_int.f (a0 : Int) (a1 : Int) : Option (Int) := (cmp_isNaN_int.f a0).bind fun t507 => ((cmp_isNaN_int.f a1).bind fun t508 => (if t507 = true then (if t508 = true then (some 0) else (some (-1))) else (if t508 = true then (some 1) else (if a0 < a1 then (some (-1)) else (if a0 > a1 then (some 1) else (some 0))))))
set_option maxHeartbeats 8000000 in
set_option maxRecDepth 100000 in
theorem cmp_Compare_int.calls (a0 : Int) (a1 : Int) (r : Int) (w : World) (h : cmp_Compare_int.f a0 a1 = some r) :
    Calls Try.prog 116 #[.int .i64 a0, .int .i64 a1] w fun e w' => e = .returned (.int .i64 r) ∧ Drawn0 w w' := by
 have H : ((cmp_isNaN_int.f a0).bind fun t507 => ((cmp_isNaN_int.f a1).bind fun t508 => (if t507 = true then (if t508 = true then (some 0) else (some (-1))) else (if t508 = true then (some 1) else (if a0 < a1 then (some (-1)) else (if a0 > a1 then (some 1) else (some 0))))))) = some r := h
 clear h; obtain ⟨t507, A3, H⟩ := zbind H; obtain ⟨t508, A4, H⟩ := zbind H
 by_cases c5 : t507 = true
 ·subst c5
  rw [if_pos rfl] at H
  by_cases c6 : t508 = true
  ·subst c6
   rw [if_pos rfl] at H; obtain rfl := sI H
   go_enter Try.func116, Try.ntmps116
   go_wp2_with (first | ((with_reducible refine gC (f := 119) rfl ?_); refine zJ (some 8) Try.func119 #[.int .i64 a0] ?_; (with_reducible refine (cmp_isNaN_int.calls a0 true _ A3.out).mono ?_); rintro e w' ⟨rfl, ⟨nd, rfl⟩⟩; refine ⟨_, rfl, ?_⟩) | ((with_reducible refine gC (f := 119) rfl ?_); refine zJ (some 10) Try.func119 #[.int .i64 a1] ?_; (with_reducible refine (cmp_isNaN_int.calls a1 true _ A4.out).mono ?_); rintro e w' ⟨rfl, ⟨nd, rfl⟩⟩; refine ⟨_, rfl, ?_⟩))
   go_ret
   exact ⟨by first | rfl | (simp; done) | (simp [*]; done), by repeat (first | exact Drawn0.refl _ | apply Drawn0.step)⟩
  replace c6 := Bool.eq_false_iff.mpr c6; subst c6
  rw [if_neg (show ¬ (false = true) by decide)] at H
  obtain rfl := sI H
  go_enter Try.func116, Try.ntmps116
  go_wp2_with (first | ((with_reducible refine gC (f := 119) rfl ?_); refine zJ (some 8) Try.func119 #[.int .i64 a0] ?_; (with_reducible refine (cmp_isNaN_int.calls a0 true _ A3.out).mono ?_); rintro e w' ⟨rfl, ⟨nd, rfl⟩⟩; refine ⟨_, rfl, ?_⟩) | ((with_reducible refine gC (f := 119) rfl ?_); refine zJ (some 10) Try.func119 #[.int .i64 a1] ?_; (with_reducible refine (cmp_isNaN_int.calls a1 false _ A4.out).mono ?_); rintro e w' ⟨rfl, ⟨nd, rfl⟩⟩; refine ⟨_, rfl, ?_⟩))
  go_ret
  exact ⟨by first | rfl | (simp; done) | (simp [*]; done), by repeat (first | exact Drawn0.refl _ | apply Drawn0.step)⟩
 replace c5 := Bool.eq_false_iff.mpr c5; subst c5
 rw [if_neg (show ¬ (false = true) by decide)] at H
 by_cases c7 : t508 = true
 ·subst c7
  rw [if_pos rfl] at H; obtain rfl := sI H
  go_enter Try.func116, Try.ntmps116
  go_wp2_with (first | ((with_reducible refine gC (f := 119) rfl ?_); refine zJ (some 8) Try.func119 #[.int .i64 a0] ?_; (with_reducible refine (cmp_isNaN_int.calls a0 false _ A3.out).mono ?_); rintro e w' ⟨rfl, ⟨nd, rfl⟩⟩; refine ⟨_, rfl, ?_⟩) | ((with_reducible refine gC (f := 119) rfl ?_); refine zJ (some 10) Try.func119 #[.int .i64 a1] ?_; (with_reducible refine (cmp_isNaN_int.calls a1 true _ A4.out).mono ?_); rintro e w' ⟨rfl, ⟨nd, rfl⟩⟩; refine ⟨_, rfl, ?_⟩))
  go_ret
  exact ⟨by first | rfl | (simp; done) | (simp [*]; done), by repeat (first | exact Drawn0.refl _ | apply Drawn0.step)⟩
 replace c7 := Bool.eq_false_iff.mpr c7; subst c7
 rw [if_neg (show ¬ (false = true) by decide)] at H
 by_cases c8 : a0 < a1
 ·rw [if_pos c8] at H
  have c8b0 := dT c8; clear c8; obtain rfl := sI H
  go_enter Try.func116, Try.ntmps116
  go_wp2_with (first | ((with_reducible refine gC (f := 119) rfl ?_); refine zJ (some 8) Try.func119 #[.int .i64 a0] ?_; (with_reducible refine (cmp_isNaN_int.calls a0 false _ A3.out).mono ?_); rintro e w' ⟨rfl, ⟨nd, rfl⟩⟩; refine ⟨_, rfl, ?_⟩) | ((with_reducible refine gC (f := 119) rfl ?_); refine zJ (some 10) Try.func119 #[.int .i64 a1] ?_; (with_reducible refine (cmp_isNaN_int.calls a1 false _ A4.out).mono ?_); rintro e w' ⟨rfl, ⟨nd, rfl⟩⟩; refine ⟨_, rfl, ?_⟩))
  go_ret
  exact ⟨by first | rfl | (simp; done) | (simp [*]; done), by repeat (first | exact Drawn0.refl _ | apply Drawn0.step)⟩
 rw [if_neg c8] at H; have c8b0 := dF c8; clear c8
 by_cases c9 : a0 > a1
 ·rw [if_pos c9] at H
  have c9b0 : decide (a1 < a0) = true := dT c9
  clear c9; obtain rfl := sI H
  go_enter Try.func116, Try.ntmps116
  go_wp2_with (first | ((with_reducible refine gC (f := 119) rfl ?_); refine zJ (some 8) Try.func119 #[.int .i64 a0] ?_; (with_reducible refine (cmp_isNaN_int.calls a0 false _ A3.out).mono ?_); rintro e w' ⟨rfl, ⟨nd, rfl⟩⟩; refine ⟨_, rfl, ?_⟩) | ((with_reducible refine gC (f := 119) rfl ?_); refine zJ (some 10) Try.func119 #[.int .i64 a1] ?_; (with_reducible refine (cmp_isNaN_int.calls a1 false _ A4.out).mono ?_); rintro e w' ⟨rfl, ⟨nd, rfl⟩⟩; refine ⟨_, rfl, ?_⟩))
  go_ret
  exact ⟨by first | rfl | (simp; done) | (simp [*]; done), by repeat (first | exact Drawn0.refl _ | apply Drawn0.step)⟩
 rw [if_neg c9] at H
 have c9b0 : decide (a1 < a0) = false := dF c9
 clear c9; obtain rfl := sI H
 go_enter Try.func116, Try.ntmps116
 go_wp2_with (first | ((with_reducible refine gC (f := 119) rfl ?_); refine zJ (some 8) Try.func119 #[.int .i64 a0] ?_; (with_reducible refine (cmp_isNaN_int.calls a0 false _ A3.out).mono ?_); rintro e w' ⟨rfl, ⟨nd, rfl⟩⟩; refine ⟨_, rfl, ?_⟩) | ((with_reducible refine gC (f := 119) rfl ?_); refine zJ (some 10) Try.func119 #[.int .i64 a1] ?_; (with_reducible refine (cmp_isNaN_int.calls a1 false _ A4.out).mono ?_); rintro e w' ⟨rfl, ⟨nd, rfl⟩⟩; refine ⟨_, rfl, ?_⟩))
 go_ret
 exact ⟨by first | rfl | (simp; done) | (simp [*]; done), by repeat (first | exact Drawn0.refl _ | apply Drawn0.step)⟩

/-! ### slices_Compare_int_int: function 110 -/
def slices_Compare_int_int.l0 : Nat → List Int → List Int → List Int → Int → Int → Option (Int)
  | 0, _, _, _, _, _ => none
  | k + 1, x0, x1, x9, x10, x11 => if x11 < x10 then (if 0 ≤ x11 then (if x11 < (x9.length : Int) then (if x11 ≥ (x1.length : Int) then (some 1) else (if x11 < (x1.length : Int) then ((cmp_Compare_int.f (rd x9 x11) (rd x1 x11)).bind fun t511 => (if t511 = 0 then (slices_Compare_int_int.l0 k x0 x1 x9 x10 (wrap64 (x11 + 1))) else (some t511))) else (none))) else (none)) else (none)) else (if (x0.length : Int) < (x1.length : Int) then (some (-1)) else (some 0))
def slices_Compare_int_int.f (k : Nat) (l0 : List Int) (l1 : List Int) : Option (Int) := slices_Compare_int_int.l0 k l0 l1 l0 (l0.length : Int) 0
set_option maxHeartbeats 8000000 in
set_option maxRecDepth 100000 in
theorem slices_Compare_int_int.calls (k : Nat) (A0 : Option Addr) (c0 : Nat) (l0 : List Int) (A1 : Option Addr) (c1 : Nat) (l1 : List Int) (r : Int) (w : World) (hr0 : Kd.C (Kd.int .i64) w A0 l0.length l0) (hc0 : l0.length ≤ c0) (hr1 : Kd.C (Kd.int .i64) w A1 l1.length l1) (hc1 : l1.length ≤ c1) (h : slices_Compare_int_int.f k l0 l1 = some r) :
    Calls Try.prog 110 #[.slice A0 l0.length c0, .slice A1 l1.length c1] w fun e w' => e = .returned (.int .i64 r) ∧ Drawn0 w w' := by
 have HR0 := A0_ hr0; have HC0 := A0_ hc0; clear hr0 hc0; have HR1 := A0_ hr1; have HC1 := A0_ hc1; clear hr1 hc1
 have H : (slices_Compare_int_int.l0 k l0 l1 l0 (l0.length : Int) 0) = some r := h
 clear h; have H' := A0_ H; clear H
 go_enter Try.func110, Try.ntmps110
 go_wp2
 go_loopg [11] k (fun kq v11 w' => ∃ (x11_1 : Int), v11 = .int .i64 x11_1 ∧ Aside0 (slices_Compare_int_int.l0 kq l0 l1 l0 (l0.length : Int) x11_1 = some r) ∧ Aside0 (kq ≤ k) ∧ Drawn0 w w')
 case atStart => exact ⟨(0), zt, H', ⟨Nat.le_refl _⟩, by repeat (first | exact Drawn0.refl _ | apply Drawn0.step)⟩
 case round =>
  clear H'; (try clear c1); (try clear p2); obtain ⟨x11_1, rfl, HA, HK1, ⟨m1, rfl⟩⟩ := hrel
  cases gk with
  | zero => exact absurd HA.out (by simp [slices_Compare_int_int.l0])
  | succ k1 =>
   have H := HA.out; clear HA; simp only [slices_Compare_int_int.l0] at H
   by_cases c3 : x11_1 < (l0.length : Int)
   ·rw [if_pos c3] at H
    have c3b0 := dT c3; clear c3
    by_cases c4 : 0 ≤ x11_1
    ·rw [if_pos c4] at H
     have c4b0 := dT c4; clear c4
     by_cases c5 : x11_1 < (l0.length : Int)
     ·rw [if_pos c5] at H
      have c5b0 := dT c5; clear c5
      by_cases c6 : x11_1 ≥ (l1.length : Int)
      ·rw [if_pos c6] at H
       have c6b0 : decide ((l1.length : Int) ≤ x11_1) = true := dT c6
       clear c6; obtain rfl := sI H
       have p509 : 0 ≤ (x11_1 : Int) := zd
       have q509 : x11_1 < (l0.length : Int) := zd
       obtain ⟨ad509, e509, hx509_0⟩ := tI HR0.out x11_1 p509 q509
       cases e509
       replace p509 := eq_true p509; replace q509 := eq_true q509
       go_wp2
       go_ret
       exact ⟨by first | rfl | (simp; done) | (simp [*]; done), by repeat (first | exact Drawn0.refl _ | apply Drawn0.step)⟩
      rw [if_neg c6] at H
      have c6b0 : decide ((l1.length : Int) ≤ x11_1) = false := dF c6
      clear c6
      by_cases c7 : x11_1 < (l1.length : Int)
      ·rw [if_pos c7] at H
       have c7b0 := dT c7; clear c7; obtain ⟨t511, A8, H⟩ := zbind H
       by_cases c9 : t511 = 0
       ·rw [if_pos c9] at H
        have c9b0 : (t511 == 0) = true := beq_iff_eq.mpr c9
        have c9b1 : (t511 != 0) = false := bne_eq_false_iff_eq.mpr c9
        clear c9; have H' := A0_ H; clear H
        have p509 : 0 ≤ (x11_1 : Int) := zd
        have q509 : x11_1 < (l0.length : Int) := zd
        obtain ⟨ad509, e509, hx509_0⟩ := tI HR0.out x11_1 p509 q509
        cases e509
        replace p509 := eq_true p509; replace q509 := eq_true q509
        have p510 : 0 ≤ (x11_1 : Int) := zd
        have q510 : x11_1 < (l1.length : Int) := zd
        obtain ⟨ad510, e510, hx510_0⟩ := tI HR1.out x11_1 p510 q510
        cases e510
        replace p510 := eq_true p510; replace q510 := eq_true q510
        go_wp2_with (first | ((with_reducible refine gC (f := 116) rfl ?_); refine zJ (some 26) Try.func116 #[.int .i64 (rd l0 x11_1), .int .i64 (rd l1 x11_1)] ?_; (with_reducible refine (cmp_Compare_int.calls (rd l0 x11_1) (rd l1 x11_1) t511 _ A8.out).mono ?_); rintro e w' ⟨rfl, ⟨nd, rfl⟩⟩; refine ⟨_, rfl, ?_⟩))
        go_roundg k1
        case measure => have := HK1.out; omega
        case rel => exact ⟨(wrap64 (x11_1 + 1)), zt, H', ⟨by have := HK1.out; omega⟩, by repeat (first | exact Drawn0.refl _ | apply Drawn0.step)⟩
       rw [if_neg c9] at H
       have c9b0 : (t511 == 0) = false := beq_eq_false_iff_ne.mpr c9
       have c9b1 : (t511 != 0) = true := bne_iff_ne.mpr c9
       obtain rfl := sI H
       have p509 : 0 ≤ (x11_1 : Int) := zd
       have q509 : x11_1 < (l0.length : Int) := zd
       obtain ⟨ad509, e509, hx509_0⟩ := tI HR0.out x11_1 p509 q509
       cases e509
       replace p509 := eq_true p509; replace q509 := eq_true q509
       have p510 : 0 ≤ (x11_1 : Int) := zd
       have q510 : x11_1 < (l1.length : Int) := zd
       obtain ⟨ad510, e510, hx510_0⟩ := tI HR1.out x11_1 p510 q510
       cases e510
       replace p510 := eq_true p510; replace q510 := eq_true q510
       go_wp2_with (first | ((with_reducible refine gC (f := 116) rfl ?_); refine zJ (some 26) Try.func116 #[.int .i64 (rd l0 x11_1), .int .i64 (rd l1 x11_1)] ?_; (with_reducible refine (cmp_Compare_int.calls (rd l0 x11_1) (rd l1 x11_1) t511 _ A8.out).mono ?_); rintro e w' ⟨rfl, ⟨nd, rfl⟩⟩; refine ⟨_, rfl, ?_⟩))
       go_ret
       exact ⟨by first | rfl | (simp; done) | (simp [*]; done), by repeat (first | exact Drawn0.refl _ | apply Drawn0.step)⟩
      rw [if_neg c7] at H
      exact absurd H (by simp)
     rw [if_neg c5] at H
     exact absurd H (by simp)
    rw [if_neg c4] at H
    exact absurd H (by simp)
   rw [if_neg c3] at H; have c3b0 := dF c3; clear c3
   by_cases c10 : (l0.length : Int) < (l1.length : Int)
   ·rw [if_pos c10] at H
    have c10b0 := dT c10
    have c10b1 : decide (l0.length < l1.length) = true := dT (Int.ofNat_lt.mp c10)
    clear c10; obtain rfl := sI H
    go_wp2
    go_ret
    exact ⟨by first | rfl | (simp; done) | (simp [*]; done), by repeat (first | exact Drawn0.refl _ | apply Drawn0.step)⟩
   rw [if_neg c10] at H; have c10b0 := dF c10
   have c10b1 : decide (l0.length < l1.length) = false := dF (fun h => c10 (Int.ofNat_lt.mpr h))
   clear c10; obtain rfl := sI H
   go_wp2
   go_ret
   exact ⟨by first | rfl | (simp; done) | (simp [*]; done), by repeat (first | exact Drawn0.refl _ | apply Drawn0.step)⟩

/-! ### impl_compareMaps: function 84 -/
def impl_compareMaps.f (k : Nat) (l0_0 : List Int) (l0_1 : List Int) (l1_0 : List Int) (l1_1 : List Int) : Option (Int) := (slices_Compare_int_int.f k l0_0 l1_0).bind fun t514 => (if t514 = 0 then ((slices_Compare_int_int.f k l0_1 l1_1).bind fun t515 => (some t515)) else (some t514))
set_option maxHeartbeats 8000000 in
set_option maxRecDepth 100000 in
theorem impl_compareMaps.calls (k : Nat) (A0_0 : Option Addr) (c0_0 : Nat) (l0_0 : List Int) (A0_1 : Option Addr) (c0_1 : Nat) (l0_1 : List Int) (A1_0 : Option Addr) (c1_0 : Nat) (l1_0 : List Int) (A1_1 : Option Addr) (c1_1 : Nat) (l1_1 : List Int) (r : Int) (w : World) (hr0_0 : Kd.C (Kd.int .i64) w A0_0 l0_0.length l0_0) (hc0_0 : l0_0.length ≤ c0_0) (hr0_1 : Kd.C (Kd.int .i64) w A0_1 l0_1.length l0_1) (hc0_1 : l0_1.length ≤ c0_1) (hr1_0 : Kd.C (Kd.int .i64) w A1_0 l1_0.length l1_0) (hc1_0 : l1_0.length ≤ c1_0) (hr1_1 : Kd.C (Kd.int .i64) w A1_1 l1_1.length l1_1) (hc1_1 : l1_1.length ≤ c1_1) (h : impl_compareMaps.f k l0_0 l0_1 l1_0 l1_1 = some r) :
    Calls Try.prog 84 #[.agg #[.slice A0_0 l0_0.length c0_0, .slice A0_1 l0_1.length c0_1], .agg #[.slice A1_0 l1_0.length c1_0, .slice A1_1 l1_1.length c1_1]] w fun e w' => e = .returned (.int .i64 r) ∧ Below w.heap.size w w' := by
 have hu25 := Try.underlying25; have HR0_0 := A0_ hr0_0; have HC0_0 := A0_ hc0_0; clear hr0_0 hc0_0; have HR0_1 := A0_ hr0_1; have HC0_1 := A0_ hc0_1; clear hr0_1 hc0_1; have HR1_0 := A0_ hr1_0; have HC1_0 := A0_ hc1_0; clear hr1_0 hc1_0; have HR1_1 := A0_ hr1_1; have HC1_1 := A0_ hc1_1; clear hr1_1 hc1_1
 have HB := A0_ (Below.refl w.heap.size w)
 have H : ((slices_Compare_int_int.f k l0_0 l1_0).bind fun t514 => (if t514 = 0 then ((slices_Compare_int_int.f k l0_1 l1_1).bind fun t515 => (some t515)) else (some t514))) = some r := h
 clear h; obtain ⟨t514, A3, H⟩ := zbind H
 by_cases c4 : t514 = 0
 ·rw [if_pos c4] at H
  have c4b0 : (t514 == 0) = true := beq_iff_eq.mpr c4
  have c4b1 : (t514 != 0) = false := bne_eq_false_iff_eq.mpr c4
  clear c4; obtain ⟨t515, A5, H⟩ := zbind H; obtain rfl := sI H
  go_enter Try.func84, Try.ntmps84
  go_wp2_with (first | ((with_reducible refine gD (N := 2) rfl ?_); refine zX (N := 2) (cs := #[.slice A0_0 l0_0.length c0_0, .slice A0_1 l0_1.length c0_1]) (t := 25) ?_; intro gb512 hg w6 hbox hb; have BK512 := A0_ (hbox); have GW512 := zG hg HB; have GE512 := zG hg HB; replace HB := zB HB hb; clear hb hbox hg) | ((with_reducible refine gD (N := 3) rfl ?_); refine zX (N := 3) (cs := #[.slice A1_0 l1_0.length c1_0, .slice A1_1 l1_1.length c1_1]) (t := 25) ?_; intro gb513 hg w7 hbox hb; have BK513 := A0_ (hbox); have GW513 := zG hg HB; have GE513 := zG hg HB; replace HB := zB HB hb; have NB512_513 := zL hg BK512; have NB513_512 := zM hg BK512; replace BK512 := zK BK512 hb; clear hb hbox hg; have hnb8 := NB512_513.out; have hnc8 := NB513_512.out; have hcz9_0 := zc0 BK512; have hcz9_1 := zc1 BK512; have hfz9_0 := kF BK512.out 0; have hfz9_1 := kF BK512.out 1; have hcz10_0 := zc0 BK513; have hcz10_1 := zc1 BK513; have hfz10_0 := kF BK513.out 0; have hfz10_1 := kF BK513.out 1) | ((with_reducible refine gC (f := 110) rfl ?_); refine zJ (some 10) Try.func110 #[.slice A0_0 l0_0.length c0_0, .slice A1_0 l1_0.length c1_0] ?_; (with_reducible refine (slices_Compare_int_int.calls k _ _ l0_0 _ _ l1_0 t514 _ ?side1 ?side2 ?side3 ?side4 A3.out).mono ?_); (case side1 => exact zC HR0_0 HB); (case side2 => exact HC0_0.out); (case side3 => exact zC HR1_0 HB); (case side4 => exact HC1_0.out); rintro e w' ⟨rfl, ⟨nd, rfl⟩⟩; refine ⟨_, rfl, ?_⟩) | ((with_reducible refine gC (f := 110) rfl ?_); refine zJ (some 18) Try.func110 #[.slice A0_1 l0_1.length c0_1, .slice A1_1 l1_1.length c1_1] ?_; (with_reducible refine (slices_Compare_int_int.calls k _ _ l0_1 _ _ l1_1 t515 _ ?side1 ?side2 ?side3 ?side4 A5.out).mono ?_); (case side1 => repeat (first | exact (cB HR0_1.out (zB_ HB)) | (with_reducible refine cA ?_ _) | (with_reducible refine cN ?_ _) | (with_reducible refine cD ?_))); (case side2 => exact HC0_1.out); (case side3 => repeat (first | exact (cB HR1_1.out (zB_ HB)) | (with_reducible refine cA ?_ _) | (with_reducible refine cN ?_ _) | (with_reducible refine cD ?_))); (case side4 => exact HC1_1.out); rintro e w' ⟨rfl, ⟨nd, rfl⟩⟩; refine ⟨_, rfl, ?_⟩))
  go_ret
  exact ⟨by first | rfl | (simp [*] <;> rfl), zB_ HB⟩
 rw [if_neg c4] at H
 have c4b0 : (t514 == 0) = false := beq_eq_false_iff_ne.mpr c4
 have c4b1 : (t514 != 0) = true := bne_iff_ne.mpr c4
 obtain rfl := sI H
 go_enter Try.func84, Try.ntmps84
 go_wp2_with (first | ((with_reducible refine gD (N := 2) rfl ?_); refine zX (N := 2) (cs := #[.slice A0_0 l0_0.length c0_0, .slice A0_1 l0_1.length c0_1]) (t := 25) ?_; intro gb512 hg w11 hbox hb; have BK512 := A0_ (hbox); have GW512 := zG hg HB; have GE512 := zG hg HB; replace HB := zB HB hb; clear hb hbox hg) | ((with_reducible refine gD (N := 3) rfl ?_); refine zX (N := 3) (cs := #[.slice A1_0 l1_0.length c1_0, .slice A1_1 l1_1.length c1_1]) (t := 25) ?_; intro gb513 hg w12 hbox hb; have BK513 := A0_ (hbox); have GW513 := zG hg HB; have GE513 := zG hg HB; replace HB := zB HB hb; have NB512_513 := zL hg BK512; have NB513_512 := zM hg BK512; replace BK512 := zK BK512 hb; clear hb hbox hg; have hnb13 := NB512_513.out; have hnc13 := NB513_512.out; have hcz14_0 := zc0 BK512; have hcz14_1 := zc1 BK512; have hfz14_0 := kF BK512.out 0; have hfz14_1 := kF BK512.out 1; have hcz15_0 := zc0 BK513; have hcz15_1 := zc1 BK513; have hfz15_0 := kF BK513.out 0; have hfz15_1 := kF BK513.out 1) | ((with_reducible refine gC (f := 110) rfl ?_); refine zJ (some 10) Try.func110 #[.slice A0_0 l0_0.length c0_0, .slice A1_0 l1_0.length c1_0] ?_; (with_reducible refine (slices_Compare_int_int.calls k _ _ l0_0 _ _ l1_0 t514 _ ?side1 ?side2 ?side3 ?side4 A3.out).mono ?_); (case side1 => exact zC HR0_0 HB); (case side2 => exact HC0_0.out); (case side3 => exact zC HR1_0 HB); (case side4 => exact HC1_0.out); rintro e w' ⟨rfl, ⟨nd, rfl⟩⟩; refine ⟨_, rfl, ?_⟩))
 go_ret
 exact ⟨by first | rfl | (simp [*] <;> rfl), zB_ HB⟩

end Go.Proofs.Ytmegggomhjgehaa.PFnDeck
