-- Made by a program of this session (wip/tools) out of the loaded program; not trusted: Lean checks it.
import Derived.Test.YtmegggomhjgehaaPFnBranchx0
import Derived.Test.YtmegggomhjgehaaPFnBranchx2
import Derived.Test.YtmegggomhjgehaaPFnBranchx5
import Derived.Test.YtmegggomhjgehaaPFnBranchx12
import Derived.Test.YtmegggomhjgehaaPFnBranchx13
-- packed
namespace Go.Proofs.Ytmegggomhjgehaa.PFnBranch
open Go.RowKit Go.Proofs.YtmegggomhjgehaaW.PrintWords Go.Proofs.YtmegggomhjgehaaW.PrintLast Go.Proofs.YtmegggomhjgehaaW.PrintMore
attribute [local go_sem] max2_int min2_int max_two min_two max_three min_three max_four min_four   -- for this text's walks alone
set_option linter.unusedVariables false
set_option linter.unusedSimpArgs false

/-! ### spec_CoverBranch: function 24 -/
def spec_CoverBranch.l0 : Nat → Int → List (List Int) → Int → List (List Int) → Int → List Int → List Int → Option (Int)
  | 0, _, _, _, _, _, _, _ => none
  | k + 1, x1, x2, x7, x8, x9, x578000, x578001 => if x9 < (x8.length : Int) then (if 0 ≤ x9 then ((spec_l9Winding.f k x578000 x578001 x1 x2 (rd_L1 x8 x9)).bind fun t586 => ((spec_l1Cycles.f k t586).bind fun t589 => (spec_CoverBranch.l0 k x1 x2 (wrap64 ((wrap64 (x7 + x1)) - (t589.length : Int))) x8 (wrap64 (x9 + 1)) x578000 x578001))) else (none)) else (some x7)
def spec_CoverBranch.f (k : Nat) (l0_0 : List Int) (l0_1 : List Int) (a1 : Int) (l2 : List (List Int)) : Option (Int) := (spec_VoltageValid.f k l0_0 l0_1 a1 l2).bind fun t578 => (if t578 = true then ((spec_l2Faces.f k l0_0 l0_1).bind fun t579 => ((spec_l1Cycles.f k t579).bind fun t582 => (spec_CoverBranch.l0 k a1 l2 0 t582 0 l0_0 l0_1))) else (some (-1)))
def spec_CoverBranch.T8 : Bool × List (List Nat × List Nat) := (true, [([], []), ([], []), ([0, 1], [0, 1]), ([], []), ([], []), ([], []), ([], []), ([], []), ([6, 7], [6, 7]), ([8], [8]), ([3, 4, 5, 9], [3, 4, 5, 9]), ([10, 10], [10]), ([11], [11]), ([2, 12], [2, 12]), ([13, 11, 0, 1, 2, 3, 4, 5, 6, 7, 8, 9, 10, 11, 12, 13], [0, 13])])
def spec_CoverBranch.B8 : List Nat := [0, 0, 3, 0, 0, 0, 0, 0, 192, 448, 1016, 2040, 4088, 8191, 16383]
theorem spec_CoverBranch.tab8 : rtab .any (opsOf Try.f24 8) = spec_CoverBranch.T8 := by kernel_rfl
theorem spec_CoverBranch.bits8 : waitsOk spec_CoverBranch.T8.2 spec_CoverBranch.B8 = true := by kernel_rfl
set_option maxHeartbeats 8000000 in
set_option maxRecDepth 100000 in
theorem spec_CoverBranch.calls (k : Nat) (A0_0 : Option Addr) (c0_0 : Nat) (l0_0 : List Int) (A0_1 : Option Addr) (c0_1 : Nat) (l0_1 : List Int) (a1 : Int) (A2 : Option Addr) (c2 : Nat) (l2 : List (List Int)) (r : Int) (w : World) (hr0_0 : Kd.C (Kd.int .i64) w A0_0 l0_0.length l0_0) (hc0_0 : l0_0.length ≤ c0_0) (hr0_1 : Kd.C (Kd.int .i64) w A0_1 l0_1.length l0_1) (hc0_1 : l0_1.length ≤ c0_1) (hr2 : Kd.C (Kd.slice 3 (Kd.int .i64)) w A2 l2.length l2) (hc2 : l2.length ≤ c2) (h : spec_CoverBranch.f k l0_0 l0_1 a1 l2 = some r) :
    Calls Try.prog 24 #[.agg #[.slice A0_0 l0_0.length c0_0, .slice A0_1 l0_1.length c0_1], .int .i64 a1, .slice A2 l2.length c2] w fun e w' => e = .returned (.int .i64 r) ∧ Below w.heap.size w w' := by
 have hu25 := Try.underlying25; have HR0_0 := A0_ hr0_0; have HC0_0 := A0_ hc0_0; clear hr0_0 hc0_0; have HR0_1 := A0_ hr0_1; have HC0_1 := A0_ hc0_1; clear hr0_1 hc0_1; have HR2 := A0_ hr2; have HC2 := A0_ hc2; clear hr2 hc2
 have HB := A0_ (Below.refl w.heap.size w)
 have H : ((spec_VoltageValid.f k l0_0 l0_1 a1 l2).bind fun t578 => (if t578 = true then ((spec_l2Faces.f k l0_0 l0_1).bind fun t579 => ((spec_l1Cycles.f k t579).bind fun t582 => (spec_CoverBranch.l0 k a1 l2 0 t582 0 l0_0 l0_1))) else (some (-1)))) = some r := h
 clear h; obtain ⟨t578, A4, H⟩ := zbind H
 by_cases c5 : t578 = true
 ·subst c5
  rw [if_pos rfl] at H; obtain ⟨t579, A6, H⟩ := zbind H; obtain ⟨t582, A7, H⟩ := zbind H; have H' := A0_ H; clear H
  go_enter Try.func24, Try.ntmps24
  go_wp2_with (first | ((with_reducible refine gD (N := 3) rfl ?_); refine zX (N := 3) (cs := #[.slice A0_0 l0_0.length c0_0, .slice A0_1 l0_1.length c0_1]) (t := 25) ?_; intro gb577 hg w8 hbox hb; have BK577 := A0_ (hbox); have GW577 := zG hg HB; have GE577 := zG hg HB; replace HB := zB HB hb; clear hb hbox hg; have hcz9_0 := zc0 BK577; have hcz9_1 := zc1 BK577; have hfz9_0 := kF BK577.out 0; have hfz9_1 := kF BK577.out 1) | ((with_reducible refine gC (f := 56) rfl ?_); refine zJ (some 13) Try.func56 #[.agg #[.slice A0_0 l0_0.length c0_0, .slice A0_1 l0_1.length c0_1], .int .i64 a1, .slice A2 l2.length c2] ?_; (with_reducible refine (spec_VoltageValid.calls k _ _ l0_0 _ _ l0_1 a1 _ _ l2 true _ ?side1 ?side2 ?side3 ?side4 ?side5 ?side6 A4.out).mono ?_); (case side1 => exact zC HR0_0 HB); (case side2 => exact HC0_0.out); (case side3 => exact zC HR0_1 HB); (case side4 => exact HC0_1.out); (case side5 => exact zC HR2 HB); (case side6 => exact HC2.out); rintro e w10 ⟨rfl, hb⟩; refine ⟨_, rfl, ?_⟩; replace BK577 := zK BK577 hb; replace HB := zB HB hb; (try clear hb); have hcz11_0 := zc0 BK577; have hcz11_1 := zc1 BK577; have hfz11_0 := kF BK577.out 0; have hfz11_1 := kF BK577.out 1) | ((with_reducible refine gC (f := 72) rfl ?_); refine zJ (some 16) Try.func72 #[.agg #[.slice A0_0 l0_0.length c0_0, .slice A0_1 l0_1.length c0_1]] ?_; (with_reducible refine (spec_l2Faces.calls k _ _ l0_0 _ _ l0_1 t579 _ ?side1 ?side2 ?side3 ?side4 A6.out).mono ?_); (case side1 => exact zC HR0_0 HB); (case side2 => exact HC0_0.out); (case side3 => exact zC HR0_1 HB); (case side4 => exact HC0_1.out); rintro e w12 ⟨v580, rfl, ho0, hb⟩; refine ⟨_, rfl, ?_⟩; have HO581 := A0_ (rL ho0 (bZ (zB_ HB))); replace BK577 := zK BK577 hb; replace HB := zB HB hb; (try clear hb); (try clear ho0); obtain ⟨Ao13, co13, eo13⟩ := rS HO581.out; subst eo13) | ((with_reducible refine gC (f := 71) rfl ?_); refine zJ (some 17) Try.func71 #[.slice Ao13 t579.length co13] ?_; (with_reducible refine (spec_l1Cycles.calls k _ _ t579 t582 _ ?side1 ?side2 A7.out).mono ?_); (case side1 => exact zD HO581); (case side2 => exact (rR HO581.out).2.1); rintro e w14 ⟨v583, rfl, ho0, hb⟩; refine ⟨_, rfl, ?_⟩; have HO584 := A0_ (Kd.S_lower (Kd.S_new' ho0 (rX (zR_ HO581))) (bZ (zB_ HB))); replace HO581 := zR HO581 hb; replace BK577 := zK BK577 hb; replace HB := zB HB hb; (try clear hb); (try clear ho0)))
  go_loopg [7, 9] k (fun kq v7 v9 w' => ∃ (x7_1 : Int) (x9_1 : Int), v7 = .int .i64 x7_1 ∧ v9 = .int .i64 x9_1 ∧ Aside0 (spec_CoverBranch.l0 kq a1 l2 x7_1 t582 x9_1 l0_0 l0_1 = some r) ∧ Aside0 (kq ≤ k) ∧ Aside0 (Kd.S (Kd.slice 3 (Kd.int .i64)) 23 w' w.heap.size (fun _ => True) v583 t582) ∧ Aside0 (w'.heap[gb577]? = some (.cells #[(.slice A0_0 l0_0.length c0_0), (.slice A0_1 l0_1.length c0_1)] 25 (0, 0))) ∧ Aside0 (Below w.heap.size w w'))
  case atStart => exact ⟨(0), (0), zt, zt, H', ⟨Nat.le_refl _⟩, ⟨zmS HO584 (fun _ hk => trivial)⟩, ⟨zK_ BK577⟩, ⟨zB_ HB⟩⟩
  case round =>
   clear H'; (try clear c2); (try clear p2); (try clear c5); (try clear c7); (try clear hcz11_0); (try clear hcz11_1); (try clear hcz9_0); (try clear hcz9_1); (try clear hfz11_0); (try clear hfz11_1); (try clear hfz9_0); (try clear hfz9_1); obtain ⟨x7_1, x9_1, rfl, rfl, HA, HK1, HO_8, BK577, HB⟩ := hrel
   cases gk with
   | zero => exact absurd HA.out (by simp [spec_CoverBranch.l0])
   | succ k1 =>
    have H := HA.out; clear HA; simp only [spec_CoverBranch.l0] at H
    by_cases c15 : x9_1 < (t582.length : Int)
    ·rw [if_pos c15] at H
     have c15b0 := dT c15; clear c15
     by_cases c16 : 0 ≤ x9_1
     ·rw [if_pos c16] at H
      have c16b0 := dT c16; clear c16; obtain ⟨t586, A17, H⟩ := zbind H; obtain ⟨t589, A18, H⟩ := zbind H; have H' := A0_ H; clear H; obtain ⟨Ao19, co19, eo19⟩ := Kd.S_slice HO_8.out; subst eo19
      try go_wp2
      replace HO_8 := A0_ (sD HO_8.out)
      replace BK577 := A0_ (kD BK577.out)
      replace HB := A0_ (bD HB.out)
      have p585 : 0 ≤ (x9_1 : Int) := zd
      have q585 : x9_1 < (t582.length : Int) := zd
      obtain ⟨ad585, A585_0, c585_0, e585, hx585_0, hl585_0, hi585_0⟩ := at_L1 (Kd.S_reads' HO_8.out).2.2 x9_1 p585 q585
      cases e585
      obtain ⟨ce585, hce585, hMe585, hcc585⟩ := Kd.S_get HO_8.out [] x9_1 p585 (by first | exact q585 | exact zd | (have e_ := (Kd.S_reads' HO_8.out).1; omega))
      obtain ⟨ve585_0, rfl, ge585_0⟩ := hMe585; have hv585_0 := hcc585 0 _ rfl
      rw [Nat.add_zero, show ((Kd.slice 3 (Kd.int .i64))).sz = 1 from rfl, Nat.mul_one] at hv585_0
      replace hv585_0 := sI (hv585_0.symm.trans hx585_0)
      rw [hv585_0] at ge585_0
      have HL585_0 := A0_ (show Kd.R (Kd.int .i64) 3 _ _ _ _ (rd_L1 t582 x9_1) from ge585_0)
      clear hv585_0 ge585_0 hcc585 hce585; have HR585_0 := A0_ hi585_0; have HC585_0 := A0_ hl585_0; clear hi585_0 hl585_0; replace p585 := eq_true p585; replace q585 := eq_true q585
      refine start_ (n := 15) (S := fun w' => w'.cell? ⟨gb577, 0, none⟩ = some (.slice A0_0 l0_0.length c0_0) ∧ w'.cell? ⟨gb577, 1, none⟩ = some (.slice A0_1 l0_1.length c0_1) ∧ w'.cell? (ad585.add (x9_1).toNat) = some (.slice A585_0 (rd_L1 t582 x9_1).length c585_0)) (ds := []) #[false, false, false, false, false, false, false, false, false, false, false, false, false, false, false] (by kernel_rfl) rfl rfl ⟨(kC BK577.out 0).trans rfl, (kC BK577.out 1).trans rfl, hx585_0⟩ (fun hHeld => ?_); refine with_tabW spec_CoverBranch.tab8 spec_CoverBranch.bits8 (fun HT_ HW_ => ?_)
      generalize wr.drew = w20 at HO_8 BK577 HB HL585_0 HR585_0 hx585_0 hHeld ⊢
      refine zP 0 (some 24) #[true,false,false,false,false,false,false,false,false,false,false,false,false,false,false] ?_
      refine zP 1 (some 25) #[true,true,false,false,false,false,false,false,false,false,false,false,false,false,false] ?_
      refine zP 2 (some 26) #[true,true,true,false,false,false,false,false,false,false,false,false,false,false,false] ?_
      refine zP 4 (some 28) #[true,true,true,false,true,false,false,false,false,false,false,false,false,false,false] ?_
      refine zP 5 (some 29) #[true,true,true,false,true,true,false,false,false,false,false,false,false,false,false] ?_
      refine zP 6 (some 30) #[true,true,true,false,true,true,true,false,false,false,false,false,false,false,false] ?_
      refine zP 7 (some 31) #[true,true,true,false,true,true,true,true,false,false,false,false,false,false,false] ?_
      refine zP 8 (some 32) #[true,true,true,false,true,true,true,true,true,false,false,false,false,false,false] ?_
      refine take_ (i := 3) (N := some 27) (v := ?_) (a' := ?_) #[true, true, true, true, true, true, true, true, true, false, false, false, false, false, false] rfl rfl (take_ofW HT_.out HW_.out (by kernel_rfl)) (fun _ _ _ h => h) (Or.inl ⟨by rfl, ?_⟩) hHeld ?_ ?_
      rotate_left
      ·rintro w' ⟨s0, s1, s2⟩
       go_simp
       with_reducible rfl
      rotate_left
      ·simp only [Act.put, List.setIfInBounds_toArray, List.set_cons_zero, List.set_cons_succ, i64_w, i32_w]
       rfl
      refine take_ (i := 9) (N := some 33) (v := ?_) (a' := ?_) #[true, true, true, true, true, true, true, true, true, true, false, false, false, false, false] rfl rfl (take_ofW HT_.out HW_.out (by kernel_rfl)) (fun _ _ _ h => h) (Or.inl ⟨by rfl, ?_⟩) hHeld ?_ ?_
      rotate_left
      ·rintro w' ⟨s0, s1, s2⟩
       go_simp
       with_reducible rfl
      rotate_left
      ·simp only [Act.put, List.setIfInBounds_toArray, List.set_cons_zero, List.set_cons_succ, i64_w, i32_w]
       rfl
      refine one_ (i := 10) (N := some 34) #[true, true, true, true, true, true, true, true, true, true, true, false, false, false, false] rfl rfl (one_of HT_.out (by kernel_rfl)) (by decide) (fun K hK => ?_)
      refine goes_ Try.func73 (by kernel_rfl) rfl #[.agg #[.slice A0_0 l0_0.length c0_0, .slice A0_1 l0_1.length c0_1], .int .i64 a1, .slice A2 l2.length c2, .slice A585_0 (rd_L1 t582 x9_1).length c585_0] (by rfl) rfl rfl (by (try simp only [List.map_toArray, List.map_cons, List.map_nil]); first | done | rfl | (simp only [List.length_drop, List.length_take]; rfl)) ?_
      with_reducible refine (spec_l9Winding.calls k1 _ _ l0_0 _ _ l0_1 a1 _ _ l2 _ _ (rd_L1 t582 x9_1) t586 _ ?side1 ?side2 ?side3 ?side4 ?side5 ?side6 ?side7 ?side8 A17.out).mono ?_
      (case side1 => exact zC HR0_0 HB)
      (case side2 => exact HC0_0.out)
      (case side3 => exact zC HR0_1 HB)
      (case side4 => exact HC0_1.out)
      (case side5 => exact zC HR2 HB)
      (case side6 => exact HC2.out)
      (case side7 => repeat (first | exact (by repeat (first | (with_reducible exact HR585_0.out) | (with_reducible refine cA ?_ _) | (with_reducible refine cN ?_ _) | (with_reducible refine cD ?_) | exact HR585_0.out)) | (with_reducible refine cA ?_ _) | (with_reducible refine cN ?_ _) | (with_reducible refine cD ?_)))
      (case side8 => exact HC585_0.out)
      rintro e w21 ⟨v587, rfl, ho0, hb⟩
      have HS2_ := (hb.cell (wL _ _ (hHeld.2.2))).trans (hHeld.2.2)
      refine ⟨_, rfl, ?_⟩
      replace HO_8 := A0_ (Kd.S_elder' (zS_ HO_8) (Kd.R_base ho0) hb)
      have HO588 := A0_ (rL (Kd.R_new' ho0 (rX (zR_ HL585_0))) (bZ (zB_ HB)))
      replace HL585_0 := A0_ (Kd.R_elder' (zR_ HL585_0) (Kd.R_base ho0) hb)
      replace BK577 := zK BK577 hb
      replace HR585_0 := A0_ (cB (by repeat (first | (with_reducible exact HR585_0.out) | (with_reducible refine cA ?_ _) | (with_reducible refine cN ?_ _) | (with_reducible refine cD ?_) | exact HR585_0.out)) hb)
      replace HB := zB HB hb; (try clear hb); (try clear hb2); (try clear hk); (try clear hi); (try clear ho0); obtain ⟨Ao22, co22, eo22⟩ := rS HO588.out
      (first | subst eo22 | (injection eo22 with f1_ f2_ f3_; have f4_ := f1_.symm; have f5_ := f3_.symm; clear f1_ f2_ f3_; subst f4_; subst f5_))
      refine hK.out _ _ ⟨(kC BK577.out 0).trans rfl, (kC BK577.out 1).trans rfl, HS2_⟩ (fun hHeld => ?_)
      clear hK K
      refine norm_ (a' := ?_) ?_ ?_
      rotate_left
      ·show Act.put _ (some 34) _ = _
       simp only [Act.put, List.setIfInBounds_toArray, List.set_cons_zero, List.set_cons_succ, i64_w, i32_w]
       rfl
      refine one_ (i := 11) (N := some 35) #[true, true, true, true, true, true, true, true, true, true, true, true, false, false, false] rfl rfl (one_of HT_.out (by kernel_rfl)) (by decide) (fun K hK => ?_)
      refine goes_ Try.func71 (by kernel_rfl) rfl #[.slice Ao22 t586.length co22] (by rfl) rfl rfl (by (try simp only [List.map_toArray, List.map_cons, List.map_nil]); first | done | rfl | (simp only [List.length_drop, List.length_take]; rfl)) ?_
      with_reducible refine (spec_l1Cycles.calls k1 _ _ t586 t589 _ ?side1 ?side2 A18.out).mono ?_
      (case side1 => exact zD HO588)
      (case side2 => exact (rR HO588.out).2.1)
      rintro e w23 ⟨v590, rfl, ho0, hb⟩
      have HS2_ := (hb.cell (wL _ _ (hHeld.2.2))).trans (hHeld.2.2)
      refine ⟨_, rfl, ?_⟩
      have HO591 := A0_ (Kd.S_lower (Kd.S_new' (Kd.S_new' (Kd.S_new' ho0 (Kd.S_lt (zS_ HO_8))) (rX (zR_ HL585_0))) (rX (zR_ HO588))) (bZ (zB_ HB)))
      replace HO_8 := A0_ (Kd.S_elder' (zS_ HO_8) (Kd.S_base ho0) hb)
      replace HL585_0 := zR HL585_0 hb; replace HO588 := zR HO588 hb; replace BK577 := zK BK577 hb
      replace HR585_0 := A0_ (cB (by repeat (first | (with_reducible exact HR585_0.out) | (with_reducible refine cA ?_ _) | (with_reducible refine cN ?_ _) | (with_reducible refine cD ?_) | exact HR585_0.out)) hb)
      replace HB := zB HB hb; (try clear hb); (try clear hb2); (try clear hk); (try clear hi); (try clear ho0); obtain ⟨Ao24, co24, eo24⟩ := Kd.S_slice HO591.out
      (first | subst eo24 | (injection eo24 with f1_ f2_ f3_; have f4_ := f1_.symm; have f5_ := f3_.symm; clear f1_ f2_ f3_; subst f4_; subst f5_))
      refine hK.out _ _ ⟨(kC BK577.out 0).trans rfl, (kC BK577.out 1).trans rfl, HS2_⟩ (fun hHeld => ?_)
      clear hK K
      refine norm_ (a' := ?_) ?_ ?_
      rotate_left
      ·show Act.put _ (some 35) _ = _
       simp only [Act.put, List.setIfInBounds_toArray, List.set_cons_zero, List.set_cons_succ, i64_w, i32_w]
       rfl
      refine zP 12 (some 36) #[true,true,true,true,true,true,true,true,true,true,true,true,true,false,false] ?_
      refine zP 13 (some 37) #[true,true,true,true,true,true,true,true,true,true,true,true,true,true,false] ?_
      refine zP 14 (some 7) #[true,true,true,true,true,true,true,true,true,true,true,true,true,true,true] ?_
      refine done_ (done_of HT_.out (by kernel_rfl)) ?_
      try go_wp2
      go_roundg k1
      case measure => have := HK1.out; omega
      case rel => exact ⟨(wrap64 ((wrap64 (x7_1 + a1)) - (t589.length : Int))), (wrap64 (x9_1 + 1)), zt, zt, H', ⟨by have := HK1.out; omega⟩, ⟨zmS HO_8 (fun _ hk => trivial)⟩, ⟨zK_ BK577⟩, ⟨zB_ HB⟩⟩
     rw [if_neg c16] at H
     exact absurd H (by simp)
    rw [if_neg c15] at H; have c15b0 := dF c15; clear c15; obtain rfl := sI H; obtain ⟨Ao25, co25, eo25⟩ := Kd.S_slice HO_8.out; subst eo25
    go_wp2
    go_ret
    exact ⟨by first | rfl | (simp [*] <;> rfl), zB_ HB⟩
 replace c5 := Bool.eq_false_iff.mpr c5; subst c5
 rw [if_neg (show ¬ (false = true) by decide)] at H
 obtain rfl := sI H
 go_enter Try.func24, Try.ntmps24
 go_wp2_with (first | ((with_reducible refine gD (N := 3) rfl ?_); refine zX (N := 3) (cs := #[.slice A0_0 l0_0.length c0_0, .slice A0_1 l0_1.length c0_1]) (t := 25) ?_; intro gb577 hg w26 hbox hb; have BK577 := A0_ (hbox); have GW577 := zG hg HB; have GE577 := zG hg HB; replace HB := zB HB hb; clear hb hbox hg; have hcz27_0 := zc0 BK577; have hcz27_1 := zc1 BK577; have hfz27_0 := kF BK577.out 0; have hfz27_1 := kF BK577.out 1) | ((with_reducible refine gC (f := 56) rfl ?_); refine zJ (some 13) Try.func56 #[.agg #[.slice A0_0 l0_0.length c0_0, .slice A0_1 l0_1.length c0_1], .int .i64 a1, .slice A2 l2.length c2] ?_; (with_reducible refine (spec_VoltageValid.calls k _ _ l0_0 _ _ l0_1 a1 _ _ l2 false _ ?side1 ?side2 ?side3 ?side4 ?side5 ?side6 A4.out).mono ?_); (case side1 => exact zC HR0_0 HB); (case side2 => exact HC0_0.out); (case side3 => exact zC HR0_1 HB); (case side4 => exact HC0_1.out); (case side5 => exact zC HR2 HB); (case side6 => exact HC2.out); rintro e w28 ⟨rfl, hb⟩; refine ⟨_, rfl, ?_⟩; replace BK577 := zK BK577 hb; replace HB := zB HB hb; (try clear hb)))
 go_ret
 exact ⟨by first | rfl | (simp [*] <;> rfl), zB_ HB⟩

/-! ### impl_MapCounts: function 25 -/
def impl_MapCounts.f (k : Nat) (l0_0 : List Int) (l0_1 : List Int) : Option (List Int × Bool) := (impl_MapValid.f k l0_0 l0_1).bind fun t593 => (if t593 = true then ((impl_cyclesOf.f k l0_0).bind fun t594 => ((impl_mul.f k l0_1 l0_0).bind fun t597 => ((impl_cyclesOf.f k t597).bind fun t600 => (some ((([(t594.length : Int), wrap64 ((l0_1.length : Int) / 2), (t600.length : Int)] : List Int)), true))))) else (some (([] : List Int), false)))
def impl_MapCounts.T3 : Bool × List (List Nat × List Nat) := (true, [([], []), ([0], [0]), ([1], [1]), ([2], [2]), ([], []), ([4], [4]), ([5], [5]), ([6], [6]), ([], []), ([8], [8]), ([], []), ([10], [10]), ([9, 11, 2], [9, 11]), ([12, 12], [12]), ([13], [13]), ([3, 7, 14], [3, 7, 14]), ([15, 13, 0, 1, 2, 3, 4, 5, 6, 7, 8, 9, 10, 11, 12, 13, 14, 15], [15]), ([16, 0, 1, 2, 3, 4, 5, 6, 7, 8, 9, 10, 11, 12, 13, 14, 15, 16], [])])
def impl_MapCounts.B3 : List Nat := [0, 1, 3, 7, 0, 16, 48, 112, 0, 256, 0, 1024, 3847, 7943, 16135, 32767, 65535, 131071]
theorem impl_MapCounts.tab3 : rtab .any (opsOf Try.f25 3) = impl_MapCounts.T3 := by kernel_rfl
theorem impl_MapCounts.bits3 : waitsOk impl_MapCounts.T3.2 impl_MapCounts.B3 = true := by kernel_rfl
set_option maxHeartbeats 8000000 in
set_option maxRecDepth 100000 in
theorem impl_MapCounts.calls (k : Nat) (A0_0 : Option Addr) (c0_0 : Nat) (l0_0 : List Int) (A0_1 : Option Addr) (c0_1 : Nat) (l0_1 : List Int) (r1 : List Int) (r2 : Bool) (w : World) (hr0_0 : Kd.C (Kd.int .i64) w A0_0 l0_0.length l0_0) (hc0_0 : l0_0.length ≤ c0_0) (hr0_1 : Kd.C (Kd.int .i64) w A0_1 l0_1.length l0_1) (hc0_1 : l0_1.length ≤ c0_1) (h : impl_MapCounts.f k l0_0 l0_1 = some (r1, r2)) :
    Calls Try.prog 25 #[.agg #[.slice A0_0 l0_0.length c0_0, .slice A0_1 l0_1.length c0_1]] w fun e w' => ∃ v0_ : Value, e = .returned (.tuple #[v0_, .bool r2]) ∧ Kd.R (Kd.int .i64) 3 w' w.heap.size (fun _ => True) v0_ r1 ∧ Below w.heap.size w w' := by
 have hu25 := Try.underlying25; have HR0_0 := A0_ hr0_0; have HC0_0 := A0_ hc0_0; clear hr0_0 hc0_0; have HR0_1 := A0_ hr0_1; have HC0_1 := A0_ hc0_1; clear hr0_1 hc0_1
 have HB := A0_ (Below.refl w.heap.size w)
 have H : ((impl_MapValid.f k l0_0 l0_1).bind fun t593 => (if t593 = true then ((impl_cyclesOf.f k l0_0).bind fun t594 => ((impl_mul.f k l0_1 l0_0).bind fun t597 => ((impl_cyclesOf.f k t597).bind fun t600 => (some ((([(t594.length : Int), wrap64 ((l0_1.length : Int) / 2), (t600.length : Int)] : List Int)), true))))) else (some (([] : List Int), false)))) = some (r1, r2) := h
 clear h; obtain ⟨t593, A2, H⟩ := zbind H
 by_cases c3 : t593 = true
 ·subst c3
  have H1 : ((impl_cyclesOf.f k l0_0).bind fun t594 => ((impl_mul.f k l0_1 l0_0).bind fun t597 => ((impl_cyclesOf.f k t597).bind fun t600 => (some ((([(t594.length : Int), wrap64 ((l0_1.length : Int) / 2), (t600.length : Int)] : List Int)), true))))) = some (r1, r2) := by rw [if_pos rfl] at H; exact H
  clear H; have H := H1; clear H1; obtain ⟨t594, A4, H⟩ := zbind H; obtain ⟨t597, A5, H⟩ := zbind H; obtain ⟨t600, A6, H⟩ := zbind H
  obtain ⟨y603, hy603⟩ : ∃ y_ : List Int, y_ = (([(t594.length : Int), wrap64 ((l0_1.length : Int) / 2), (t600.length : Int)] : List Int)) := ⟨_, rfl⟩
  replace H : (some (y603, true)) = some (r1, r2) := zH hy603 H
  have Ny603 := A0_ hy603; clear hy603; simp only [Option.some.injEq, Prod.mk.injEq] at H; obtain ⟨rfl, rfl⟩ := H
  go_enter Try.func25, Try.ntmps25
  try go_wp2_with (first | ((with_reducible refine gD (N := 1) rfl ?_); refine zX (N := 1) (cs := #[.slice A0_0 l0_0.length c0_0, .slice A0_1 l0_1.length c0_1]) (t := 25) ?_; intro gb592 hg w7 hbox hb; have BK592 := A0_ (hbox); have GW592 := zG hg HB; have GE592 := zG hg HB; replace HB := zB HB hb; clear hb hbox hg; have hcz8_0 := zc0 BK592; have hcz8_1 := zc1 BK592; have hfz8_0 := kF BK592.out 0; have hfz8_1 := kF BK592.out 1) | ((with_reducible refine gC (f := 54) rfl ?_); refine zJ (some 5) Try.func54 #[.agg #[.slice A0_0 l0_0.length c0_0, .slice A0_1 l0_1.length c0_1]] ?_; (with_reducible refine (impl_MapValid.calls k (fun k_ => k_ < w.heap.size) _ _ l0_0 (fun k_ => k_ < w.heap.size) _ _ l0_1 true _ ?side1 ?side2 A2.out).mono ?_); (case side1 => exact Kd.V_mk HC0_0.out (Kd.F_below (Kd.C_F (Kd.heap_int .i64) HR0_0.out) (zB_ HB))); (case side2 => exact Kd.V_mk HC0_1.out (Kd.F_below (Kd.C_F (Kd.heap_int .i64) HR0_1.out) (zB_ HB))); rintro e w9 ⟨rfl, hb⟩; refine ⟨_, rfl, ?_⟩; replace BK592 := zK BK592 hb; replace HB := zB HB hb; (try clear hb)))
  replace BK592 := A0_ (kD BK592.out)
  replace HB := A0_ (bD HB.out)
  refine start_ (n := 18) (S := fun w' => w'.cell? ⟨gb592, 0, none⟩ = some (.slice A0_0 l0_0.length c0_0) ∧ w'.cell? ⟨gb592, 1, none⟩ = some (.slice A0_1 l0_1.length c0_1)) (ds := []) #[false, false, false, false, false, false, false, false, false, false, false, false, false, false, false, false, false, false] (by kernel_rfl) rfl rfl ⟨(kC BK592.out 0).trans rfl, (kC BK592.out 1).trans rfl⟩ (fun hHeld => ?_); refine with_tabW impl_MapCounts.tab3 impl_MapCounts.bits3 (fun HT_ HW_ => ?_)
  generalize w9.drew = w10 at BK592 HB hHeld ⊢
  refine zP 0 (some 7) #[true,false,false,false,false,false,false,false,false,false,false,false,false,false,false,false,false,false] ?_
  refine zP 4 (some 11) #[true,false,false,false,true,false,false,false,false,false,false,false,false,false,false,false,false,false] ?_
  refine zP 8 (some 15) #[true,false,false,false,true,false,false,false,true,false,false,false,false,false,false,false,false,false] ?_
  refine zP 10 (some 17) #[true,false,false,false,true,false,false,false,true,false,true,false,false,false,false,false,false,false] ?_
  refine take_ (i := 1) (N := some 8) (v := ?_) (a' := ?_) #[true, true, false, false, true, false, false, false, true, false, true, false, false, false, false, false, false, false] rfl rfl (take_ofW HT_.out HW_.out (by kernel_rfl)) (fun _ _ _ h => h) (Or.inl ⟨by rfl, ?_⟩) hHeld ?_ ?_
  rotate_left
  ·rintro w' ⟨s0, s1⟩
   go_simp
   with_reducible rfl
  rotate_left
  ·simp only [Act.put, List.setIfInBounds_toArray, List.set_cons_zero, List.set_cons_succ, i64_w, i32_w]
   rfl
  refine take_ (i := 5) (N := some 12) (v := ?_) (a' := ?_) #[true, true, false, false, true, true, false, false, true, false, true, false, false, false, false, false, false, false] rfl rfl (take_ofW HT_.out HW_.out (by kernel_rfl)) (fun _ _ _ h => h) (Or.inl ⟨by rfl, ?_⟩) hHeld ?_ ?_
  rotate_left
  ·rintro w' ⟨s0, s1⟩
   go_simp
   with_reducible rfl
  rotate_left
  ·simp only [Act.put, List.setIfInBounds_toArray, List.set_cons_zero, List.set_cons_succ, i64_w, i32_w]
   rfl
  refine zP 6 (some 13) #[true,true,false,false,true,true,true,false,true,false,true,false,false,false,false,false,false,false] ?_
  refine zP 7 (some 14) #[true,true,false,false,true,true,true,true,true,false,true,false,false,false,false,false,false,false] ?_
  refine take_ (i := 9) (N := some 16) (v := ?_) (a' := ?_) #[true, true, false, false, true, true, true, true, true, true, true, false, false, false, false, false, false, false] rfl rfl (take_ofW HT_.out HW_.out (by kernel_rfl)) (fun _ _ _ h => h) (Or.inl ⟨by rfl, ?_⟩) hHeld ?_ ?_
  rotate_left
  ·rintro w' ⟨s0, s1⟩
   go_simp
   with_reducible rfl
  rotate_left
  ·simp only [Act.put, List.setIfInBounds_toArray, List.set_cons_zero, List.set_cons_succ, i64_w, i32_w]
   rfl
  refine take_ (i := 11) (N := some 18) (v := ?_) (a' := ?_) #[true, true, false, false, true, true, true, true, true, true, true, true, false, false, false, false, false, false] rfl rfl (take_ofW HT_.out HW_.out (by kernel_rfl)) (fun _ _ _ h => h) (Or.inl ⟨by rfl, ?_⟩) hHeld ?_ ?_
  rotate_left
  ·rintro w' ⟨s0, s1⟩
   go_simp
   with_reducible rfl
  rotate_left
  ·simp only [Act.put, List.setIfInBounds_toArray, List.set_cons_zero, List.set_cons_succ, i64_w, i32_w]
   rfl
  refine one_ (i := 2) (N := some 9) #[true, true, true, false, true, true, true, true, true, true, true, true, false, false, false, false, false, false] rfl rfl (one_of HT_.out (by kernel_rfl)) (by decide) (fun K hK => ?_)
  refine goes_ Try.func68 (by kernel_rfl) rfl #[.slice A0_0 l0_0.length c0_0] (by rfl) rfl rfl (by (try simp only [List.map_toArray, List.map_cons, List.map_nil]); first | done | rfl | (simp only [List.length_drop, List.length_take]; rfl)) ?_
  with_reducible refine (impl_cyclesOf.calls k _ _ l0_0 t594 _ ?side1 ?side2 A4.out).mono ?_
  (case side1 => exact zC HR0_0 HB)
  (case side2 => exact HC0_0.out)
  rintro e w11 ⟨v595, rfl, ho0, hb⟩
  refine ⟨_, rfl, ?_⟩
  have HO596 := A0_ (Kd.S_lower ho0 (bZ (zB_ HB)))
  replace BK592 := zK BK592 hb; replace HB := zB HB hb; (try clear hb); (try clear hb2); (try clear hk); (try clear hi); (try clear ho0); obtain ⟨Ao12, co12, eo12⟩ := Kd.S_slice HO596.out
  (first | subst eo12 | (injection eo12 with f1_ f2_ f3_; have f4_ := f1_.symm; have f5_ := f3_.symm; clear f1_ f2_ f3_; subst f4_; subst f5_))
  refine hK.out _ _ ⟨(kC BK592.out 0).trans rfl, (kC BK592.out 1).trans rfl⟩ (fun hHeld => ?_)
  clear hK K
  refine norm_ (a' := ?_) ?_ ?_
  rotate_left
  ·show Act.put _ (some 9) _ = _
   simp only [Act.put, List.setIfInBounds_toArray, List.set_cons_zero, List.set_cons_succ, i64_w, i32_w]
   rfl
  refine zP 3 (some 10) #[true,true,true,true,true,true,true,true,true,true,true,true,false,false,false,false,false,false] ?_
  refine one_ (i := 12) (N := some 19) #[true, true, true, true, true, true, true, true, true, true, true, true, true, false, false, false, false, false] rfl rfl (one_of HT_.out (by kernel_rfl)) (by decide) (fun K hK => ?_)
  refine goes_ Try.func69 (by kernel_rfl) rfl #[.slice A0_1 l0_1.length c0_1, .slice A0_0 l0_0.length c0_0] (by rfl) rfl rfl (by (try simp only [List.map_toArray, List.map_cons, List.map_nil]); first | done | rfl | (simp only [List.length_drop, List.length_take]; rfl)) ?_
  with_reducible refine (impl_mul.calls k _ _ l0_1 _ _ l0_0 t597 _ ?side1 ?side2 ?side3 ?side4 A5.out).mono ?_
  (case side1 => exact zC HR0_1 HB)
  (case side2 => exact HC0_1.out)
  (case side3 => exact zC HR0_0 HB)
  (case side4 => exact HC0_0.out)
  rintro e w13 ⟨v598, rfl, ho0, hb⟩
  refine ⟨_, rfl, ?_⟩
  replace HO596 := A0_ (Kd.S_elder' (zS_ HO596) (Kd.R_base ho0) hb)
  have HO599 := A0_ (rL ho0 (bZ (zB_ HB)))
  replace BK592 := zK BK592 hb; replace HB := zB HB hb; (try clear hb); (try clear hb2); (try clear hk); (try clear hi); (try clear ho0); obtain ⟨Ao14, co14, eo14⟩ := rS HO599.out
  (first | subst eo14 | (injection eo14 with f1_ f2_ f3_; have f4_ := f1_.symm; have f5_ := f3_.symm; clear f1_ f2_ f3_; subst f4_; subst f5_))
  refine hK.out _ _ ⟨(kC BK592.out 0).trans rfl, (kC BK592.out 1).trans rfl⟩ (fun hHeld => ?_)
  clear hK K
  refine norm_ (a' := ?_) ?_ ?_
  rotate_left
  ·show Act.put _ (some 19) _ = _
   simp only [Act.put, List.setIfInBounds_toArray, List.set_cons_zero, List.set_cons_succ, i64_w, i32_w]
   rfl
  refine one_ (i := 13) (N := some 20) #[true, true, true, true, true, true, true, true, true, true, true, true, true, true, false, false, false, false] rfl rfl (one_of HT_.out (by kernel_rfl)) (by decide) (fun K hK => ?_)
  refine goes_ Try.func68 (by kernel_rfl) rfl #[.slice Ao14 t597.length co14] (by rfl) rfl rfl (by (try simp only [List.map_toArray, List.map_cons, List.map_nil]); first | done | rfl | (simp only [List.length_drop, List.length_take]; rfl)) ?_
  with_reducible refine (impl_cyclesOf.calls k _ _ t597 t600 _ ?side1 ?side2 A6.out).mono ?_
  (case side1 => exact zD HO599)
  (case side2 => exact (rR HO599.out).2.1)
  rintro e w15 ⟨v601, rfl, ho0, hb⟩
  refine ⟨_, rfl, ?_⟩
  have HO602 := A0_ (Kd.S_lower (Kd.S_new' (Kd.S_new' ho0 (Kd.S_lt (zS_ HO596))) (rX (zR_ HO599))) (bZ (zB_ HB)))
  replace HO596 := A0_ (Kd.S_elder' (zS_ HO596) (Kd.S_base ho0) hb)
  replace HO599 := zR HO599 hb; replace BK592 := zK BK592 hb; replace HB := zB HB hb; (try clear hb); (try clear hb2); (try clear hk); (try clear hi); (try clear ho0); obtain ⟨Ao16, co16, eo16⟩ := Kd.S_slice HO602.out
  (first | subst eo16 | (injection eo16 with f1_ f2_ f3_; have f4_ := f1_.symm; have f5_ := f3_.symm; clear f1_ f2_ f3_; subst f4_; subst f5_))
  refine hK.out _ _ ⟨(kC BK592.out 0).trans rfl, (kC BK592.out 1).trans rfl⟩ (fun hHeld => ?_)
  clear hK K
  refine norm_ (a' := ?_) ?_ ?_
  rotate_left
  ·show Act.put _ (some 20) _ = _
   simp only [Act.put, List.setIfInBounds_toArray, List.set_cons_zero, List.set_cons_succ, i64_w, i32_w]
   rfl
  refine zP 14 (some 21) #[true,true,true,true,true,true,true,true,true,true,true,true,true,true,true,false,false,false] ?_
  refine one_ (i := 15) (N := some 22) #[true, true, true, true, true, true, true, true, true, true, true, true, true, true, true, true, false, false] rfl rfl (one_of HT_.out (by kernel_rfl)) (by decide) (fun K hK => ?_)
  refine Kd.R_lit_step (Kd.int .i64) _ 3 ?hg (N := 22) ?hd (xs := ([(t594.length : Int), wrap64 ((l0_1.length : Int) / 2), (t600.length : Int)] : List Int)) (inner := [.int .i64 (t594.length : Int), .int .i64 (wrap64 ((l0_1.length : Int) / 2)), .int .i64 (t600.length : Int)]) (ok := fun _ => True) (okp := fun _ => True) ?hr ?hp (fun _ hk => hk) trivial (Below.refl _ _) (Nat.le_refl _) (by simp) ?_; (case hd => rfl); (case hg => rfl); (case hr => first | (go_simp; done) | (go_simp; rfl)); (case hp => exact (Reps.one (show Kd.M (Kd.int .i64) _ _ _ (t594.length : Int) [.int .i64 (t594.length : Int)] from rfl) (Reps.one (show Kd.M (Kd.int .i64) _ _ _ (wrap64 ((l0_1.length : Int) / 2)) [.int .i64 (wrap64 ((l0_1.length : Int) / 2))] from rfl) (Reps.one (show Kd.M (Kd.int .i64) _ _ _ (t600.length : Int) [.int .i64 (t600.length : Int)] from rfl) (Reps.none _ _)))))
  intro v604 w17 ho18 hb hg_ hnew_
  clear hg_ hnew_
  (first | rw [← Ny603.out] at ho18 | (simp only [Int.reduceToNat] at ho18; rw [← Ny603.out] at ho18))
  replace HO596 := A0_ (Kd.S_elder' (zS_ HO596) (Kd.R_base ho18) hb)
  replace HO602 := A0_ (Kd.S_elder' (zS_ HO602) (Kd.R_base ho18) hb)
  have HO605 := A0_ (rL (Kd.R_new' ho18 (rX (zR_ HO599))) (bZ (zB_ HB)))
  replace HO599 := A0_ (Kd.R_elder' (zR_ HO599) (Kd.R_base ho18) hb)
  replace BK592 := zK BK592 hb; replace HB := zB HB hb; clear hb ho18
  refine hK.out _ _ ⟨(kC BK592.out 0).trans rfl, (kC BK592.out 1).trans rfl⟩ (fun hHeld => ?_)
  clear hK K
  refine norm_ (a' := ?_) ?_ ?_
  rotate_left
  ·show Act.put _ (some 22) _ = _
   simp only [Act.put, List.setIfInBounds_toArray, List.set_cons_zero, List.set_cons_succ, i64_w, i32_w]
   rfl
  refine zP 16 (some 2) #[true,true,true,true,true,true,true,true,true,true,true,true,true,true,true,true,true,false] ?_
  refine zP 17 (some 3) #[true,true,true,true,true,true,true,true,true,true,true,true,true,true,true,true,true,true] ?_
  refine done_ (done_of HT_.out (by kernel_rfl)) ?_
  try go_wp2
  go_ret2
  exact ⟨_, by first | rfl | (simp [*] <;> rfl), zmR HO605 (fun _ hk => trivial), zB_ HB⟩
 replace c3 := Bool.eq_false_iff.mpr c3; subst c3
 have H1 : (some (([] : List Int), false)) = some (r1, r2) := by rw [if_neg (show ¬ (false = true) by decide)] at H; exact H
 clear H; have H := H1; clear H1; simp only [Option.some.injEq, Prod.mk.injEq] at H; obtain ⟨rfl, rfl⟩ := H
 go_enter Try.func25, Try.ntmps25
 go_wp2_with (first | ((with_reducible refine gD (N := 1) rfl ?_); refine zX (N := 1) (cs := #[.slice A0_0 l0_0.length c0_0, .slice A0_1 l0_1.length c0_1]) (t := 25) ?_; intro gb592 hg w19 hbox hb; have BK592 := A0_ (hbox); have GW592 := zG hg HB; have GE592 := zG hg HB; replace HB := zB HB hb; clear hb hbox hg; have hcz20_0 := zc0 BK592; have hcz20_1 := zc1 BK592; have hfz20_0 := kF BK592.out 0; have hfz20_1 := kF BK592.out 1) | ((with_reducible refine gC (f := 54) rfl ?_); refine zJ (some 5) Try.func54 #[.agg #[.slice A0_0 l0_0.length c0_0, .slice A0_1 l0_1.length c0_1]] ?_; (with_reducible refine (impl_MapValid.calls k (fun k_ => k_ < w.heap.size) _ _ l0_0 (fun k_ => k_ < w.heap.size) _ _ l0_1 false _ ?side1 ?side2 A2.out).mono ?_); (case side1 => exact Kd.V_mk HC0_0.out (Kd.F_below (Kd.C_F (Kd.heap_int .i64) HR0_0.out) (zB_ HB))); (case side2 => exact Kd.V_mk HC0_1.out (Kd.F_below (Kd.C_F (Kd.heap_int .i64) HR0_1.out) (zB_ HB))); rintro e w21 ⟨rfl, hb⟩; refine ⟨_, rfl, ?_⟩; replace BK592 := zK BK592 hb; replace HB := zB HB hb; (try clear hb)))
 go_ret2
 exact ⟨_, by first | rfl | (simp [*] <;> rfl), by first | exact Kd.R_nil _ _ _ _ _ | exact Kd.N_nil _ _ _ _ _ | exact Kd.V_nil _ _ _ _ _ | exact Kd.Q_nil _ _ _ _ _ | exact Kd.S_nil _ _ _ _ _, zB_ HB⟩

end Go.Proofs.Ytmegggomhjgehaa.PFnBranch
