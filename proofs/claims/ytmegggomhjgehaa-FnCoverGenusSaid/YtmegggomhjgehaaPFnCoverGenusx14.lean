-- Made by a program of this session (wip/tools) out of the loaded program; not trusted: Lean checks it.
import Derived.Test.YtmegggomhjgehaaPFnCoverGenusx0
import Derived.Test.YtmegggomhjgehaaPFnCoverGenusx10
import Derived.Test.YtmegggomhjgehaaPFnCoverGenusx12
import Derived.Test.YtmegggomhjgehaaPFnCoverGenusx13
-- packed
namespace Go.Proofs.Ytmegggomhjgehaa.PFnCoverGenus
open Go.RowKit Go.Proofs.YtmegggomhjgehaaW.PrintWords Go.Proofs.YtmegggomhjgehaaW.PrintLast Go.Proofs.YtmegggomhjgehaaW.PrintMore
attribute [local go_sem] max2_int min2_int max_two min_two max_three min_three max_four min_four   -- for this text's walks alone
set_option linter.unusedVariables false
set_option linter.unusedSimpArgs false

/-! ### spec_CoverBranch: function 24 -/
def spec_CoverBranch.l0 : Nat → Int → List (List Int) → Int → List (List Int) → Int → List Int → List Int → Option (Int)
  | 0, _, _, _, _, _, _, _ => none
  | k + 1, x1, x2, x7, x8, x9, x514000, x514001 => if x9 < (x8.length : Int) then (if 0 ≤ x9 then ((spec_l9Winding.f k x514000 x514001 x1 x2 (rd_L2 x8 x9)).bind fun t522 => ((spec_l1Cycles.f k t522).bind fun t525 => (spec_CoverBranch.l0 k x1 x2 (wrap64 ((wrap64 (x7 + x1)) - (t525.length : Int))) x8 (wrap64 (x9 + 1)) x514000 x514001))) else (none)) else (some x7)
def spec_CoverBranch.f (k : Nat) (l0_0 : List Int) (l0_1 : List Int) (a1 : Int) (l2 : List (List Int)) : Option (Int) := (spec_VoltageValid.f k l0_0 l0_1 a1 l2).bind fun t514 => (if t514 = true then ((spec_l2Faces.f k l0_0 l0_1).bind fun t515 => ((spec_l1Cycles.f k t515).bind fun t518 => (spec_CoverBranch.l0 k a1 l2 0 t518 0 l0_0 l0_1))) else (some (-1)))
def spec_CoverBranch.T8 : Bool × List (List Nat × List Nat) := (true, [([], []), ([], []), ([0, 1], [0, 1]), ([], []), ([], []), ([], []), ([], []), ([], []), ([6, 7], [6, 7]), ([8], [8]), ([3, 4, 5, 9], [3, 4, 5, 9]), ([10, 10], [10]), ([11], [11]), ([2, 12], [2, 12]), ([13, 11, 0, 1, 2, 3, 4, 5, 6, 7, 8, 9, 10, 11, 12, 13], [0, 13])])
def spec_CoverBranch.B8 : List Nat := [0, 0, 3, 0, 0, 0, 0, 0, 192, 448, 1016, 2040, 4088, 8191, 16383]
theorem spec_CoverBranch.tab8 : rtab .any (opsOf Try.f24 8) = spec_CoverBranch.T8 := by kernel_rfl
theorem spec_CoverBranch.bits8 : waitsOk spec_CoverBranch.T8.2 spec_CoverBranch.B8 = true := by kernel_rfl
set_option maxHeartbeats 8000000 in
set_option maxRecDepth 100000 in
theorem spec_CoverBranch.calls (k : Nat) (A0_0 : Option Addr) (c0_0 : Nat) (l0_0 : List Int) (A0_1 : Option Addr) (c0_1 : Nat) (l0_1 : List Int) (a1 : Int) (A2 : Option Addr) (c2 : Nat) (l2 : List (List Int)) (r : Int) (w : World) (hr0_0 : Kd.C (Kd.int .i64) w A0_0 l0_0.length l0_0) (hc0_0 : l0_0.length ≤ c0_0) (hr0_1 : Kd.C (Kd.int .i64) w A0_1 l0_1.length l0_1) (hc0_1 : l0_1.length ≤ c0_1) (hr2 : Kd.C (Kd.slice 3 (Kd.int .i64)) w A2 l2.length l2) (hc2 : l2.length ≤ c2) (h : spec_CoverBranch.f k l0_0 l0_1 a1 l2 = some r) :
    Calls Try.prog 24 #[.agg #[.slice A0_0 l0_0.length c0_0, .slice A0_1 l0_1.length c0_1], .int .i64 a1, .slice A2 l2.length c2] w fun e w' => e = .returned (.int .i64 r) ∧ Below w.heap.size w w' := by
 have hu25 := Try.underlying25; have HR0_0 := A0_ hr0_0; have HC0_0 := A0_ hc0_0; clear hr0_0 hc0_0; have HR0_1 := A0_ hr0_1; have HC0_1 := A0_ hc0_1; clear hr0_1 hc0_1; have HR2 := A0_ hr2; have HC2 := A0_ hc2; clear hr2 hc2
 have HB := A0_ (Below.refl w.heap.size w)
 have H : ((spec_VoltageValid.f k l0_0 l0_1 a1 l2).bind fun t514 => (if t514 = true then ((spec_l2Faces.f k l0_0 l0_1).bind fun t515 => ((spec_l1Cycles.f k t515).bind fun t518 => (spec_CoverBranch.l0 k a1 l2 0 t518 0 l0_0 l0_1))) else (some (-1)))) = some r := h
 clear h; obtain ⟨t514, A4, H⟩ := zbind H
 by_cases c5 : t514 = true
 ·subst c5
  rw [if_pos rfl] at H; obtain ⟨t515, A6, H⟩ := zbind H; obtain ⟨t518, A7, H⟩ := zbind H; have H' := A0_ H; clear H
  go_enter Try.func24, Try.ntmps24
  go_wp2_with (first | ((with_reducible refine gD (N := 3) rfl ?_); refine zX (N := 3) (cs := #[.slice A0_0 l0_0.length c0_0, .slice A0_1 l0_1.length c0_1]) (t := 25) ?_; intro gb513 hg w8 hbox hb; have BK513 := A0_ (hbox); have GW513 := zG hg HB; have GE513 := zG hg HB; replace HB := zB HB hb; clear hb hbox hg; have hcz9_0 := zc0 BK513; have hcz9_1 := zc1 BK513; have hfz9_0 := kF BK513.out 0; have hfz9_1 := kF BK513.out 1) | ((with_reducible refine gC (f := 56) rfl ?_); refine zJ (some 13) Try.func56 #[.agg #[.slice A0_0 l0_0.length c0_0, .slice A0_1 l0_1.length c0_1], .int .i64 a1, .slice A2 l2.length c2] ?_; (with_reducible refine (spec_VoltageValid.calls k _ _ l0_0 _ _ l0_1 a1 _ _ l2 true _ ?side1 ?side2 ?side3 ?side4 ?side5 ?side6 A4.out).mono ?_); (case side1 => exact zC HR0_0 HB); (case side2 => exact HC0_0.out); (case side3 => exact zC HR0_1 HB); (case side4 => exact HC0_1.out); (case side5 => exact zC HR2 HB); (case side6 => exact HC2.out); rintro e w10 ⟨rfl, hb⟩; refine ⟨_, rfl, ?_⟩; replace BK513 := zK BK513 hb; replace HB := zB HB hb; (try clear hb); have hcz11_0 := zc0 BK513; have hcz11_1 := zc1 BK513; have hfz11_0 := kF BK513.out 0; have hfz11_1 := kF BK513.out 1) | ((with_reducible refine gC (f := 72) rfl ?_); refine zJ (some 16) Try.func72 #[.agg #[.slice A0_0 l0_0.length c0_0, .slice A0_1 l0_1.length c0_1]] ?_; (with_reducible refine (spec_l2Faces.calls k _ _ l0_0 _ _ l0_1 t515 _ ?side1 ?side2 ?side3 ?side4 A6.out).mono ?_); (case side1 => exact zC HR0_0 HB); (case side2 => exact HC0_0.out); (case side3 => exact zC HR0_1 HB); (case side4 => exact HC0_1.out); rintro e w12 ⟨v516, rfl, ho0, hb⟩; refine ⟨_, rfl, ?_⟩; have HO517 := A0_ (rL ho0 (bZ (zB_ HB))); replace BK513 := zK BK513 hb; replace HB := zB HB hb; (try clear hb); (try clear ho0); obtain ⟨Ao13, co13, eo13⟩ := rS HO517.out; subst eo13) | ((with_reducible refine gC (f := 71) rfl ?_); refine zJ (some 17) Try.func71 #[.slice Ao13 t515.length co13] ?_; (with_reducible refine (spec_l1Cycles.calls k _ _ t515 t518 _ ?side1 ?side2 A7.out).mono ?_); (case side1 => exact zD HO517); (case side2 => exact (rR HO517.out).2.1); rintro e w14 ⟨v519, rfl, ho0, hb⟩; refine ⟨_, rfl, ?_⟩; have HO520 := A0_ (Kd.S_lower (Kd.S_new' ho0 (rX (zR_ HO517))) (bZ (zB_ HB))); replace HO517 := zR HO517 hb; replace BK513 := zK BK513 hb; replace HB := zB HB hb; (try clear hb); (try clear ho0)))
  go_loopg [7, 9] k (fun kq v7 v9 w' => ∃ (x7_1 : Int) (x9_1 : Int), v7 = .int .i64 x7_1 ∧ v9 = .int .i64 x9_1 ∧ Aside0 (spec_CoverBranch.l0 kq a1 l2 x7_1 t518 x9_1 l0_0 l0_1 = some r) ∧ Aside0 (kq ≤ k) ∧ Aside0 (Kd.S (Kd.slice 3 (Kd.int .i64)) 23 w' w.heap.size (fun _ => True) v519 t518) ∧ Aside0 (w'.heap[gb513]? = some (.cells #[(.slice A0_0 l0_0.length c0_0), (.slice A0_1 l0_1.length c0_1)] 25 (0, 0))) ∧ Aside0 (Below w.heap.size w w'))
  case atStart => exact ⟨(0), (0), zt, zt, H', ⟨Nat.le_refl _⟩, ⟨zmS HO520 (fun _ hk => trivial)⟩, ⟨zK_ BK513⟩, ⟨zB_ HB⟩⟩
  case round =>
   clear H'; (try clear c2); (try clear p2); (try clear c5); (try clear c7); (try clear hcz11_0); (try clear hcz11_1); (try clear hcz9_0); (try clear hcz9_1); (try clear hfz11_0); (try clear hfz11_1); (try clear hfz9_0); (try clear hfz9_1); obtain ⟨x7_1, x9_1, rfl, rfl, HA, HK1, HO_8, BK513, HB⟩ := hrel
   cases gk with
   | zero => exact absurd HA.out (by simp [spec_CoverBranch.l0])
   | succ k1 =>
    have H := HA.out; clear HA; simp only [spec_CoverBranch.l0] at H
    by_cases c15 : x9_1 < (t518.length : Int)
    ·rw [if_pos c15] at H
     have c15b0 := dT c15; clear c15
     by_cases c16 : 0 ≤ x9_1
     ·rw [if_pos c16] at H
      have c16b0 := dT c16; clear c16; obtain ⟨t522, A17, H⟩ := zbind H; obtain ⟨t525, A18, H⟩ := zbind H; have H' := A0_ H; clear H; obtain ⟨Ao19, co19, eo19⟩ := Kd.S_slice HO_8.out; subst eo19
      try go_wp2
      replace HO_8 := A0_ (sD HO_8.out)
      replace BK513 := A0_ (kD BK513.out)
      replace HB := A0_ (bD HB.out)
      have p521 : 0 ≤ (x9_1 : Int) := zd
      have q521 : x9_1 < (t518.length : Int) := zd
      obtain ⟨ad521, A521_0, c521_0, e521, hx521_0, hl521_0, hi521_0⟩ := at_L2 (Kd.S_reads' HO_8.out).2.2 x9_1 p521 q521
      cases e521
      obtain ⟨ce521, hce521, hMe521, hcc521⟩ := Kd.S_get HO_8.out [] x9_1 p521 (by first | exact q521 | exact zd | (have e_ := (Kd.S_reads' HO_8.out).1; omega))
      obtain ⟨ve521_0, rfl, ge521_0⟩ := hMe521; have hv521_0 := hcc521 0 _ rfl
      rw [Nat.add_zero, show ((Kd.slice 3 (Kd.int .i64))).sz = 1 from rfl, Nat.mul_one] at hv521_0
      replace hv521_0 := sI (hv521_0.symm.trans hx521_0)
      rw [hv521_0] at ge521_0
      have HL521_0 := A0_ (show Kd.R (Kd.int .i64) 3 _ _ _ _ (rd_L2 t518 x9_1) from ge521_0)
      clear hv521_0 ge521_0 hcc521 hce521; have HR521_0 := A0_ hi521_0; have HC521_0 := A0_ hl521_0; clear hi521_0 hl521_0; replace p521 := eq_true p521; replace q521 := eq_true q521
      refine start_ (n := 15) (S := fun w' => w'.cell? ⟨gb513, 0, none⟩ = some (.slice A0_0 l0_0.length c0_0) ∧ w'.cell? ⟨gb513, 1, none⟩ = some (.slice A0_1 l0_1.length c0_1) ∧ w'.cell? (ad521.add (x9_1).toNat) = some (.slice A521_0 (rd_L2 t518 x9_1).length c521_0)) (ds := []) #[false, false, false, false, false, false, false, false, false, false, false, false, false, false, false] (by kernel_rfl) rfl rfl ⟨(kC BK513.out 0).trans rfl, (kC BK513.out 1).trans rfl, hx521_0⟩ (fun hHeld => ?_); refine with_tabW spec_CoverBranch.tab8 spec_CoverBranch.bits8 (fun HT_ HW_ => ?_)
      generalize wr.drew = w20 at HO_8 BK513 HB HL521_0 HR521_0 hx521_0 hHeld ⊢
      refine zP 0 (some 24) #[true,false,false,false,false,false,false,false,false,false,false,false,false,false,false] ?_
      refine zP 1 (some 25) #[true,true,false,false,false,false,false,false,false,false,false,false,false,false,false] ?_
      refine zP 2 (some 26) #[true,true,true,false,false,false,false,false,false,false,false,false,false,false,false] ?_
      refine zP 4 (some 28) #[true,true,true,false,true,false,false,false,false,false,false,false,false,false,false] ?_
      refine zP 5 (some 29) #[true,true,true,false,true,true,false,false,false,false,false,false,false,false,false] ?_
      refine zP 6 (some 30) #[true,true,true,false,true,true,true,false,false,false,false,false,false,false,false] ?_
      refine zP 7 (some 31) #[true,true,true,false,true,true,true,true,false,false,false,false,false,false,false] ?_
      refine zP 8 (some 32) #[true,true,true,false,true,true,true,true,true,false,false,false,false,false,false] ?_
      refine take_ (i := 3) (N := some 27) (v := ?_) (a' := ?_) #[true, true, true, true, true, true, true, true, true, false, false, false, false, false, false] rfl rfl (take_ofW HT_.out HW_.out (by kernel_rfl)) (fun _ _ _ h => h) (Or.inl ⟨by rfl, ?_⟩) hHeld ?_ ?_
      rotate_left
      ·rintro w' ⟨s0, s1, s2⟩
       go_simp
       with_reducible rfl
      rotate_left
      ·simp only [Act.put, List.setIfInBounds_toArray, List.set_cons_zero, List.set_cons_succ, i64_w, i32_w]
       rfl
      refine take_ (i := 9) (N := some 33) (v := ?_) (a' := ?_) #[true, true, true, true, true, true, true, true, true, true, false, false, false, false, false] rfl rfl (take_ofW HT_.out HW_.out (by kernel_rfl)) (fun _ _ _ h => h) (Or.inl ⟨by rfl, ?_⟩) hHeld ?_ ?_
      rotate_left
      ·rintro w' ⟨s0, s1, s2⟩
       go_simp
       with_reducible rfl
      rotate_left
      ·simp only [Act.put, List.setIfInBounds_toArray, List.set_cons_zero, List.set_cons_succ, i64_w, i32_w]
       rfl
      refine one_ (i := 10) (N := some 34) #[true, true, true, true, true, true, true, true, true, true, true, false, false, false, false] rfl rfl (one_of HT_.out (by kernel_rfl)) (by decide) (fun K hK => ?_)
      refine goes_ Try.func73 (by kernel_rfl) rfl #[.agg #[.slice A0_0 l0_0.length c0_0, .slice A0_1 l0_1.length c0_1], .int .i64 a1, .slice A2 l2.length c2, .slice A521_0 (rd_L2 t518 x9_1).length c521_0] (by rfl) rfl rfl (by (try simp only [List.map_toArray, List.map_cons, List.map_nil]); first | done | rfl | (simp only [List.length_drop, List.length_take]; rfl)) ?_
      with_reducible refine (spec_l9Winding.calls k1 _ _ l0_0 _ _ l0_1 a1 _ _ l2 _ _ (rd_L2 t518 x9_1) t522 _ ?side1 ?side2 ?side3 ?side4 ?side5 ?side6 ?side7 ?side8 A17.out).mono ?_
      (case side1 => exact zC HR0_0 HB)
      (case side2 => exact HC0_0.out)
      (case side3 => exact zC HR0_1 HB)
      (case side4 => exact HC0_1.out)
      (case side5 => exact zC HR2 HB)
      (case side6 => exact HC2.out)
      (case side7 => repeat (first | exact (by repeat (first | (with_reducible exact HR521_0.out) | (with_reducible refine cA ?_ _) | (with_reducible refine cN ?_ _) | (with_reducible refine cD ?_) | exact HR521_0.out)) | (with_reducible refine cA ?_ _) | (with_reducible refine cN ?_ _) | (with_reducible refine cD ?_)))
      (case side8 => exact HC521_0.out)
      rintro e w21 ⟨v523, rfl, ho0, hb⟩
      have HS2_ := (hb.cell (wL _ _ (hHeld.2.2))).trans (hHeld.2.2)
      refine ⟨_, rfl, ?_⟩
      replace HO_8 := A0_ (Kd.S_elder' (zS_ HO_8) (Kd.R_base ho0) hb)
      have HO524 := A0_ (rL (Kd.R_new' ho0 (rX (zR_ HL521_0))) (bZ (zB_ HB)))
      replace HL521_0 := A0_ (Kd.R_elder' (zR_ HL521_0) (Kd.R_base ho0) hb)
      replace BK513 := zK BK513 hb
      replace HR521_0 := A0_ (cB (by repeat (first | (with_reducible exact HR521_0.out) | (with_reducible refine cA ?_ _) | (with_reducible refine cN ?_ _) | (with_reducible refine cD ?_) | exact HR521_0.out)) hb)
      replace HB := zB HB hb; (try clear hb); (try clear hb2); (try clear hk); (try clear hi); (try clear ho0); obtain ⟨Ao22, co22, eo22⟩ := rS HO524.out
      (first | subst eo22 | (injection eo22 with f1_ f2_ f3_; have f4_ := f1_.symm; have f5_ := f3_.symm; clear f1_ f2_ f3_; subst f4_; subst f5_))
      refine hK.out _ _ ⟨(kC BK513.out 0).trans rfl, (kC BK513.out 1).trans rfl, HS2_⟩ (fun hHeld => ?_)
      clear hK K
      refine norm_ (a' := ?_) ?_ ?_
      rotate_left
      ·show Act.put _ (some 34) _ = _
       simp only [Act.put, List.setIfInBounds_toArray, List.set_cons_zero, List.set_cons_succ, i64_w, i32_w]
       rfl
      refine one_ (i := 11) (N := some 35) #[true, true, true, true, true, true, true, true, true, true, true, true, false, false, false] rfl rfl (one_of HT_.out (by kernel_rfl)) (by decide) (fun K hK => ?_)
      refine goes_ Try.func71 (by kernel_rfl) rfl #[.slice Ao22 t522.length co22] (by rfl) rfl rfl (by (try simp only [List.map_toArray, List.map_cons, List.map_nil]); first | done | rfl | (simp only [List.length_drop, List.length_take]; rfl)) ?_
      with_reducible refine (spec_l1Cycles.calls k1 _ _ t522 t525 _ ?side1 ?side2 A18.out).mono ?_
      (case side1 => exact zD HO524)
      (case side2 => exact (rR HO524.out).2.1)
      rintro e w23 ⟨v526, rfl, ho0, hb⟩
      have HS2_ := (hb.cell (wL _ _ (hHeld.2.2))).trans (hHeld.2.2)
      refine ⟨_, rfl, ?_⟩
      have HO527 := A0_ (Kd.S_lower (Kd.S_new' (Kd.S_new' (Kd.S_new' ho0 (Kd.S_lt (zS_ HO_8))) (rX (zR_ HL521_0))) (rX (zR_ HO524))) (bZ (zB_ HB)))
      replace HO_8 := A0_ (Kd.S_elder' (zS_ HO_8) (Kd.S_base ho0) hb)
      replace HL521_0 := zR HL521_0 hb; replace HO524 := zR HO524 hb; replace BK513 := zK BK513 hb
      replace HR521_0 := A0_ (cB (by repeat (first | (with_reducible exact HR521_0.out) | (with_reducible refine cA ?_ _) | (with_reducible refine cN ?_ _) | (with_reducible refine cD ?_) | exact HR521_0.out)) hb)
      replace HB := zB HB hb; (try clear hb); (try clear hb2); (try clear hk); (try clear hi); (try clear ho0); obtain ⟨Ao24, co24, eo24⟩ := Kd.S_slice HO527.out
      (first | subst eo24 | (injection eo24 with f1_ f2_ f3_; have f4_ := f1_.symm; have f5_ := f3_.symm; clear f1_ f2_ f3_; subst f4_; subst f5_))
      refine hK.out _ _ ⟨(kC BK513.out 0).trans rfl, (kC BK513.out 1).trans rfl, HS2_⟩ (fun hHeld => ?_)
      clear hK K
      refine norm_ (a' := ?_) ?_ ?_
      rotate_left
      ·show Act.put _ (some 35) _ = _
       simp only [Act.put, List.setIfInBounds_toArray, List.set_cons_zero, List.set_cons_succ, i64_w, i32_w]
       rfl
      refine zP 12 (some 36) #[true,true,true,true,true,true,true,true,true,true,true,true,true,false,false] ?_
      refine zP 13 (some 37) #[true,true,true,true,true,true,true,true,true,true,true,true,true,true,false] ?_
      refine zP 14 (some 7) #[true,true,true,true,true,true,true,true,true,true,true,true,true,true,true] ?_
      refine done_ (done_of HT_.out (by kernel_rfl)) ?_
      try go_wp2
      go_roundg k1
      case measure => have := HK1.out; omega
      case rel => exact ⟨(wrap64 ((wrap64 (x7_1 + a1)) - (t525.length : Int))), (wrap64 (x9_1 + 1)), zt, zt, H', ⟨by have := HK1.out; omega⟩, ⟨zmS HO_8 (fun _ hk => trivial)⟩, ⟨zK_ BK513⟩, ⟨zB_ HB⟩⟩
     rw [if_neg c16] at H
     exact absurd H (by simp)
    rw [if_neg c15] at H; have c15b0 := dF c15; clear c15; obtain rfl := sI H; obtain ⟨Ao25, co25, eo25⟩ := Kd.S_slice HO_8.out; subst eo25
    go_wp2
    go_ret
    exact ⟨by first | rfl | (simp [*] <;> rfl), zB_ HB⟩
 replace c5 := Bool.eq_false_iff.mpr c5; subst c5
 rw [if_neg (show ¬ (false = true) by decide)] at H
 obtain rfl := sI H
 go_enter Try.func24, Try.ntmps24
 go_wp2_with (first | ((with_reducible refine gD (N := 3) rfl ?_); refine zX (N := 3) (cs := #[.slice A0_0 l0_0.length c0_0, .slice A0_1 l0_1.length c0_1]) (t := 25) ?_; intro gb513 hg w26 hbox hb; have BK513 := A0_ (hbox); have GW513 := zG hg HB; have GE513 := zG hg HB; replace HB := zB HB hb; clear hb hbox hg; have hcz27_0 := zc0 BK513; have hcz27_1 := zc1 BK513; have hfz27_0 := kF BK513.out 0; have hfz27_1 := kF BK513.out 1) | ((with_reducible refine gC (f := 56) rfl ?_); refine zJ (some 13) Try.func56 #[.agg #[.slice A0_0 l0_0.length c0_0, .slice A0_1 l0_1.length c0_1], .int .i64 a1, .slice A2 l2.length c2] ?_; (with_reducible refine (spec_VoltageValid.calls k _ _ l0_0 _ _ l0_1 a1 _ _ l2 false _ ?side1 ?side2 ?side3 ?side4 ?side5 ?side6 A4.out).mono ?_); (case side1 => exact zC HR0_0 HB); (case side2 => exact HC0_0.out); (case side3 => exact zC HR0_1 HB); (case side4 => exact HC0_1.out); (case side5 => exact zC HR2 HB); (case side6 => exact HC2.out); rintro e w28 ⟨rfl, hb⟩; refine ⟨_, rfl, ?_⟩; replace BK513 := zK BK513 hb; replace HB := zB HB hb; (try clear hb)))
 go_ret
 exact ⟨by first | rfl | (simp [*] <;> rfl), zB_ HB⟩

/-! ### spec_l2Counts: function 107 -/
def spec_l2Counts.f (k : Nat) (l0_0 : List Int) (l0_1 : List Int) : Option (List Int) := (spec_l1Cycles.f k l0_0).bind fun t529 => ((spec_l2Faces.f k l0_0 l0_1).bind fun t532 => ((spec_l1Cycles.f k t532).bind fun t535 => (some (([(t529.length : Int), wrap64 ((l0_1.length : Int) / 2), (t535.length : Int)] : List Int)))))
def spec_l2Counts.T1 : Bool × List (List Nat × List Nat) := (true, [([], []), ([0], [0]), ([1], [1]), ([2], [2]), ([], []), ([4], [4]), ([5], [5]), ([6], [6]), ([], []), ([8, 2], [8]), ([9, 9], [9]), ([10], [10]), ([3, 7, 11], [3, 7, 11]), ([12, 10, 0, 1, 2, 3, 4, 5, 6, 7, 8, 9, 10, 11, 12], [12])])
def spec_l2Counts.B1 : List Nat := [0, 1, 3, 7, 0, 16, 48, 112, 0, 263, 775, 1799, 4095, 8191]
theorem spec_l2Counts.tab1 : rtab .any (opsOf Try.f107 1) = spec_l2Counts.T1 := by kernel_rfl
theorem spec_l2Counts.bits1 : waitsOk spec_l2Counts.T1.2 spec_l2Counts.B1 = true := by kernel_rfl
set_option maxHeartbeats 8000000 in
set_option maxRecDepth 100000 in
theorem spec_l2Counts.calls (k : Nat) (A0_0 : Option Addr) (c0_0 : Nat) (l0_0 : List Int) (A0_1 : Option Addr) (c0_1 : Nat) (l0_1 : List Int) (r : List Int) (w : World) (hr0_0 : Kd.C (Kd.int .i64) w A0_0 l0_0.length l0_0) (hc0_0 : l0_0.length ≤ c0_0) (hr0_1 : Kd.C (Kd.int .i64) w A0_1 l0_1.length l0_1) (hc0_1 : l0_1.length ≤ c0_1) (h : spec_l2Counts.f k l0_0 l0_1 = some r) :
    Calls Try.prog 107 #[.agg #[.slice A0_0 l0_0.length c0_0, .slice A0_1 l0_1.length c0_1]] w fun e w' => ∃ v0_ : Value, e = .returned (v0_) ∧ Kd.R (Kd.int .i64) 3 w' w.heap.size (fun _ => True) v0_ r ∧ Below w.heap.size w w' := by
 have hu25 := Try.underlying25; have HR0_0 := A0_ hr0_0; have HC0_0 := A0_ hc0_0; clear hr0_0 hc0_0; have HR0_1 := A0_ hr0_1; have HC0_1 := A0_ hc0_1; clear hr0_1 hc0_1
 have HB := A0_ (Below.refl w.heap.size w)
 have H : ((spec_l1Cycles.f k l0_0).bind fun t529 => ((spec_l2Faces.f k l0_0 l0_1).bind fun t532 => ((spec_l1Cycles.f k t532).bind fun t535 => (some (([(t529.length : Int), wrap64 ((l0_1.length : Int) / 2), (t535.length : Int)] : List Int)))))) = some r := h
 clear h; obtain ⟨t529, A2, H⟩ := zbind H; obtain ⟨t532, A3, H⟩ := zbind H; obtain ⟨t535, A4, H⟩ := zbind H
 obtain ⟨y538, hy538⟩ : ∃ y_ : List Int, y_ = (([(t529.length : Int), wrap64 ((l0_1.length : Int) / 2), (t535.length : Int)] : List Int)) := ⟨_, rfl⟩
 replace H : (some y538) = some r := zH hy538 H
 have Ny538 := A0_ hy538; clear hy538; obtain rfl := sI H
 go_enter Try.func107, Try.ntmps107
 try go_wp2_with (first | ((with_reducible refine gD (N := 1) rfl ?_); refine zX (N := 1) (cs := #[.slice A0_0 l0_0.length c0_0, .slice A0_1 l0_1.length c0_1]) (t := 25) ?_; intro gb528 hg w5 hbox hb; have BK528 := A0_ (hbox); have GW528 := zG hg HB; have GE528 := zG hg HB; replace HB := zB HB hb; clear hb hbox hg))
 replace BK528 := A0_ (kD BK528.out)
 replace HB := A0_ (bD HB.out)
 refine start_ (n := 14) (S := fun w' => w'.cell? ⟨gb528, 0, none⟩ = some (.slice A0_0 l0_0.length c0_0) ∧ w'.cell? ⟨gb528, 1, none⟩ = some (.slice A0_1 l0_1.length c0_1)) (ds := []) #[false, false, false, false, false, false, false, false, false, false, false, false, false, false] (by kernel_rfl) rfl rfl ⟨(kC BK528.out 0).trans rfl, (kC BK528.out 1).trans rfl⟩ (fun hHeld => ?_); refine with_tabW spec_l2Counts.tab1 spec_l2Counts.bits1 (fun HT_ HW_ => ?_)
 generalize w5.drew = w6 at BK528 HB hHeld ⊢
 refine zP 0 (some 3) #[true,false,false,false,false,false,false,false,false,false,false,false,false,false] ?_
 refine zP 4 (some 7) #[true,false,false,false,true,false,false,false,false,false,false,false,false,false] ?_
 refine take_ (i := 1) (N := some 4) (v := ?_) (a' := ?_) #[true, true, false, false, true, false, false, false, false, false, false, false, false, false] rfl rfl (take_ofW HT_.out HW_.out (by kernel_rfl)) (fun _ _ _ h => h) (Or.inl ⟨by rfl, ?_⟩) hHeld ?_ ?_
 rotate_left
 ·rintro w' ⟨s0, s1⟩
  go_simp
  with_reducible rfl
 rotate_left
 ·simp only [Act.put, List.setIfInBounds_toArray, List.set_cons_zero, List.set_cons_succ, i64_w, i32_w]
  rfl
 refine take_ (i := 5) (N := some 8) (v := ?_) (a' := ?_) #[true, true, false, false, true, true, false, false, false, false, false, false, false, false] rfl rfl (take_ofW HT_.out HW_.out (by kernel_rfl)) (fun _ _ _ h => h) (Or.inl ⟨by rfl, ?_⟩) hHeld ?_ ?_
 rotate_left
 ·rintro w' ⟨s0, s1⟩
  go_simp
  with_reducible rfl
 rotate_left
 ·simp only [Act.put, List.setIfInBounds_toArray, List.set_cons_zero, List.set_cons_succ, i64_w, i32_w]
  rfl
 refine zP 6 (some 9) #[true,true,false,false,true,true,true,false,false,false,false,false,false,false] ?_
 refine zP 7 (some 10) #[true,true,false,false,true,true,true,true,false,false,false,false,false,false] ?_
 refine take_ (i := 8) (N := some 11) (v := ?_) (a' := ?_) #[true, true, false, false, true, true, true, true, true, false, false, false, false, false] rfl rfl (take_ofW HT_.out HW_.out (by kernel_rfl)) (fun _ _ _ h => h) (Or.inl ⟨by rfl, ?_⟩) hHeld ?_ ?_
 rotate_left
 ·rintro w' ⟨s0, s1⟩
  go_simp
  with_reducible rfl
 rotate_left
 ·simp only [Act.put, List.setIfInBounds_toArray, List.set_cons_zero, List.set_cons_succ, i64_w, i32_w]
  rfl
 refine one_ (i := 2) (N := some 5) #[true, true, true, false, true, true, true, true, true, false, false, false, false, false] rfl rfl (one_of HT_.out (by kernel_rfl)) (by decide) (fun K hK => ?_)
 refine goes_ Try.func71 (by kernel_rfl) rfl #[.slice A0_0 l0_0.length c0_0] (by rfl) rfl rfl (by (try simp only [List.map_toArray, List.map_cons, List.map_nil]); first | done | rfl | (simp only [List.length_drop, List.length_take]; rfl)) ?_
 with_reducible refine (spec_l1Cycles.calls k _ _ l0_0 t529 _ ?side1 ?side2 A2.out).mono ?_
 (case side1 => exact zC HR0_0 HB)
 (case side2 => exact HC0_0.out)
 rintro e w7 ⟨v530, rfl, ho0, hb⟩
 refine ⟨_, rfl, ?_⟩
 have HO531 := A0_ (Kd.S_lower ho0 (bZ (zB_ HB)))
 replace BK528 := zK BK528 hb; replace HB := zB HB hb; (try clear hb); (try clear hb2); (try clear hk); (try clear hi); (try clear ho0); obtain ⟨Ao8, co8, eo8⟩ := Kd.S_slice HO531.out
 (first | subst eo8 | (injection eo8 with f1_ f2_ f3_; have f4_ := f1_.symm; have f5_ := f3_.symm; clear f1_ f2_ f3_; subst f4_; subst f5_))
 refine hK.out _ _ ⟨(kC BK528.out 0).trans rfl, (kC BK528.out 1).trans rfl⟩ (fun hHeld => ?_)
 clear hK K
 refine norm_ (a' := ?_) ?_ ?_
 rotate_left
 ·show Act.put _ (some 5) _ = _
  simp only [Act.put, List.setIfInBounds_toArray, List.set_cons_zero, List.set_cons_succ, i64_w, i32_w]
  rfl
 refine zP 3 (some 6) #[true,true,true,true,true,true,true,true,true,false,false,false,false,false] ?_
 refine one_ (i := 9) (N := some 12) #[true, true, true, true, true, true, true, true, true, true, false, false, false, false] rfl rfl (one_of HT_.out (by kernel_rfl)) (by decide) (fun K hK => ?_)
 refine goes_ Try.func72 (by kernel_rfl) rfl #[.agg #[.slice A0_0 l0_0.length c0_0, .slice A0_1 l0_1.length c0_1]] (by rfl) rfl rfl (by (try simp only [List.map_toArray, List.map_cons, List.map_nil]); first | done | rfl | (simp only [List.length_drop, List.length_take]; rfl)) ?_
 with_reducible refine (spec_l2Faces.calls k _ _ l0_0 _ _ l0_1 t532 _ ?side1 ?side2 ?side3 ?side4 A3.out).mono ?_
 (case side1 => exact zC HR0_0 HB)
 (case side2 => exact HC0_0.out)
 (case side3 => exact zC HR0_1 HB)
 (case side4 => exact HC0_1.out)
 rintro e w9 ⟨v533, rfl, ho0, hb⟩
 refine ⟨_, rfl, ?_⟩
 replace HO531 := A0_ (Kd.S_elder' (zS_ HO531) (Kd.R_base ho0) hb)
 have HO534 := A0_ (rL ho0 (bZ (zB_ HB)))
 replace BK528 := zK BK528 hb; replace HB := zB HB hb; (try clear hb); (try clear hb2); (try clear hk); (try clear hi); (try clear ho0); obtain ⟨Ao10, co10, eo10⟩ := rS HO534.out
 (first | subst eo10 | (injection eo10 with f1_ f2_ f3_; have f4_ := f1_.symm; have f5_ := f3_.symm; clear f1_ f2_ f3_; subst f4_; subst f5_))
 refine hK.out _ _ ⟨(kC BK528.out 0).trans rfl, (kC BK528.out 1).trans rfl⟩ (fun hHeld => ?_)
 clear hK K
 refine norm_ (a' := ?_) ?_ ?_
 rotate_left
 ·show Act.put _ (some 12) _ = _
  simp only [Act.put, List.setIfInBounds_toArray, List.set_cons_zero, List.set_cons_succ, i64_w, i32_w]
  rfl
 refine one_ (i := 10) (N := some 13) #[true, true, true, true, true, true, true, true, true, true, true, false, false, false] rfl rfl (one_of HT_.out (by kernel_rfl)) (by decide) (fun K hK => ?_)
 refine goes_ Try.func71 (by kernel_rfl) rfl #[.slice Ao10 t532.length co10] (by rfl) rfl rfl (by (try simp only [List.map_toArray, List.map_cons, List.map_nil]); first | done | rfl | (simp only [List.length_drop, List.length_take]; rfl)) ?_
 with_reducible refine (spec_l1Cycles.calls k _ _ t532 t535 _ ?side1 ?side2 A4.out).mono ?_
 (case side1 => exact zD HO534)
 (case side2 => exact (rR HO534.out).2.1)
 rintro e w11 ⟨v536, rfl, ho0, hb⟩
 refine ⟨_, rfl, ?_⟩
 have HO537 := A0_ (Kd.S_lower (Kd.S_new' (Kd.S_new' ho0 (Kd.S_lt (zS_ HO531))) (rX (zR_ HO534))) (bZ (zB_ HB)))
 replace HO531 := A0_ (Kd.S_elder' (zS_ HO531) (Kd.S_base ho0) hb)
 replace HO534 := zR HO534 hb; replace BK528 := zK BK528 hb; replace HB := zB HB hb; (try clear hb); (try clear hb2); (try clear hk); (try clear hi); (try clear ho0); obtain ⟨Ao12, co12, eo12⟩ := Kd.S_slice HO537.out
 (first | subst eo12 | (injection eo12 with f1_ f2_ f3_; have f4_ := f1_.symm; have f5_ := f3_.symm; clear f1_ f2_ f3_; subst f4_; subst f5_))
 refine hK.out _ _ ⟨(kC BK528.out 0).trans rfl, (kC BK528.out 1).trans rfl⟩ (fun hHeld => ?_)
 clear hK K
 refine norm_ (a' := ?_) ?_ ?_
 rotate_left
 ·show Act.put _ (some 13) _ = _
  simp only [Act.put, List.setIfInBounds_toArray, List.set_cons_zero, List.set_cons_succ, i64_w, i32_w]
  rfl
 refine zP 11 (some 14) #[true,true,true,true,true,true,true,true,true,true,true,true,false,false] ?_
 refine one_ (i := 12) (N := some 15) #[true, true, true, true, true, true, true, true, true, true, true, true, true, false] rfl rfl (one_of HT_.out (by kernel_rfl)) (by decide) (fun K hK => ?_)
 refine Kd.R_lit_step (Kd.int .i64) _ 3 ?hg (N := 15) ?hd (xs := ([(t529.length : Int), wrap64 ((l0_1.length : Int) / 2), (t535.length : Int)] : List Int)) (inner := [.int .i64 (t529.length : Int), .int .i64 (wrap64 ((l0_1.length : Int) / 2)), .int .i64 (t535.length : Int)]) (ok := fun _ => True) (okp := fun _ => True) ?hr ?hp (fun _ hk => hk) trivial (Below.refl _ _) (Nat.le_refl _) (by simp) ?_; (case hd => rfl); (case hg => rfl); (case hr => first | (go_simp; done) | (go_simp; rfl)); (case hp => exact (Reps.one (show Kd.M (Kd.int .i64) _ _ _ (t529.length : Int) [.int .i64 (t529.length : Int)] from rfl) (Reps.one (show Kd.M (Kd.int .i64) _ _ _ (wrap64 ((l0_1.length : Int) / 2)) [.int .i64 (wrap64 ((l0_1.length : Int) / 2))] from rfl) (Reps.one (show Kd.M (Kd.int .i64) _ _ _ (t535.length : Int) [.int .i64 (t535.length : Int)] from rfl) (Reps.none _ _)))))
 intro v539 w13 ho14 hb hg_ hnew_
 clear hg_ hnew_
 (first | rw [← Ny538.out] at ho14 | (simp only [Int.reduceToNat] at ho14; rw [← Ny538.out] at ho14))
 replace HO531 := A0_ (Kd.S_elder' (zS_ HO531) (Kd.R_base ho14) hb)
 replace HO537 := A0_ (Kd.S_elder' (zS_ HO537) (Kd.R_base ho14) hb)
 have HO540 := A0_ (rL (Kd.R_new' ho14 (rX (zR_ HO534))) (bZ (zB_ HB)))
 replace HO534 := A0_ (Kd.R_elder' (zR_ HO534) (Kd.R_base ho14) hb)
 replace BK528 := zK BK528 hb; replace HB := zB HB hb; clear hb ho14
 refine hK.out _ _ ⟨(kC BK528.out 0).trans rfl, (kC BK528.out 1).trans rfl⟩ (fun hHeld => ?_)
 clear hK K
 refine norm_ (a' := ?_) ?_ ?_
 rotate_left
 ·show Act.put _ (some 15) _ = _
  simp only [Act.put, List.setIfInBounds_toArray, List.set_cons_zero, List.set_cons_succ, i64_w, i32_w]
  rfl
 refine zP 13 (some 2) #[true,true,true,true,true,true,true,true,true,true,true,true,true,true] ?_
 refine done_ (done_of HT_.out (by kernel_rfl)) ?_
 try go_wp2
 go_ret
 exact ⟨_, by first | rfl | (simp [*] <;> rfl), zmR HO540 (fun _ hk => trivial), zB_ HB⟩

/-! ### spec_l2Genus: function 67 -/
def spec_l2Genus.f (k : Nat) (l0_0 : List Int) (l0_1 : List Int) : Option (Int) := (spec_l2Counts.f k l0_0 l0_1).bind fun t542 => (if 0 < (t542.length : Int) then (if 1 < (t542.length : Int) then (if 2 < (t542.length : Int) then (some (wrap64 (Int.tdiv (wrap64 ((wrap64 ((wrap64 (2 - (rd t542 0))) + (rd t542 1))) - (rd t542 2))) 2))) else (none)) else (none)) else (none))
set_option maxHeartbeats 8000000 in
set_option maxRecDepth 100000 in
theorem spec_l2Genus.calls (k : Nat) (A0_0 : Option Addr) (c0_0 : Nat) (l0_0 : List Int) (A0_1 : Option Addr) (c0_1 : Nat) (l0_1 : List Int) (r : Int) (w : World) (hr0_0 : Kd.C (Kd.int .i64) w A0_0 l0_0.length l0_0) (hc0_0 : l0_0.length ≤ c0_0) (hr0_1 : Kd.C (Kd.int .i64) w A0_1 l0_1.length l0_1) (hc0_1 : l0_1.length ≤ c0_1) (h : spec_l2Genus.f k l0_0 l0_1 = some r) :
    Calls Try.prog 67 #[.agg #[.slice A0_0 l0_0.length c0_0, .slice A0_1 l0_1.length c0_1]] w fun e w' => e = .returned (.int .i64 r) ∧ Below w.heap.size w w' := by
 have hu25 := Try.underlying25; have HR0_0 := A0_ hr0_0; have HC0_0 := A0_ hc0_0; clear hr0_0 hc0_0; have HR0_1 := A0_ hr0_1; have HC0_1 := A0_ hc0_1; clear hr0_1 hc0_1
 have HB := A0_ (Below.refl w.heap.size w)
 have H : ((spec_l2Counts.f k l0_0 l0_1).bind fun t542 => (if 0 < (t542.length : Int) then (if 1 < (t542.length : Int) then (if 2 < (t542.length : Int) then (some (wrap64 (Int.tdiv (wrap64 ((wrap64 ((wrap64 (2 - (rd t542 0))) + (rd t542 1))) - (rd t542 2))) 2))) else (none)) else (none)) else (none))) = some r := h
 clear h; obtain ⟨t542, A2, H⟩ := zbind H
 by_cases c3 : 0 < (t542.length : Int)
 ·rw [if_pos c3] at H
  have c3b0 := dT c3
  have c3b1 : decide (0 < t542.length) = true := dT (by omega)
  clear c3
  by_cases c4 : 1 < (t542.length : Int)
  ·rw [if_pos c4] at H
   have c4b0 := dT c4
   have c4b1 : decide (1 < t542.length) = true := dT (by omega)
   clear c4
   by_cases c5 : 2 < (t542.length : Int)
   ·rw [if_pos c5] at H
    have c5b0 := dT c5
    have c5b1 : decide (2 < t542.length) = true := dT (by omega)
    clear c5; obtain rfl := sI H
    go_enter Try.func67, Try.ntmps67
    go_wp2_with (first | ((with_reducible refine gD (N := 1) rfl ?_); refine zX (N := 1) (cs := #[.slice A0_0 l0_0.length c0_0, .slice A0_1 l0_1.length c0_1]) (t := 25) ?_; intro gb541 hg w6 hbox hb; have BK541 := A0_ (hbox); have GW541 := zG hg HB; have GE541 := zG hg HB; replace HB := zB HB hb; clear hb hbox hg; have hcz7_0 := zc0 BK541; have hcz7_1 := zc1 BK541; have hfz7_0 := kF BK541.out 0; have hfz7_1 := kF BK541.out 1) | (go_at_call 107; (with_reducible refine (spec_l2Counts.calls k _ _ l0_0 _ _ l0_1 t542 _ ?side1 ?side2 ?side3 ?side4 A2.out).mono ?_); (case side1 => exact zC HR0_0 HB); (case side2 => exact HC0_0.out); (case side3 => exact zC HR0_1 HB); (case side4 => exact HC0_1.out); rintro e w8 ⟨v543, rfl, ho0, hb⟩; have HO544 := A0_ (rL ho0 (bZ (zB_ HB))); replace BK541 := zK BK541 hb; replace HB := zB HB hb; (try clear hb); (try clear ho0); obtain ⟨Ao9, co9, eo9⟩ := rS HO544.out; subst eo9; have p545 : 0 ≤ (0 : Int) := (by omega); have q545 : 0 < (t542.length : Int) := zd; obtain ⟨ad545, e545, hx545_0⟩ := tI (rR HO544.out).2.2 0 p545 q545; cases e545; have qi545 : (0 < t542.length) = True := eq_true (by omega); (try rw [show ((0 : Int)).toNat = 0 from rfl] at hx545_0); (try rw [Addr.add_zero'] at hx545_0); replace p545 := eq_true p545; replace q545 := eq_true q545; have p546 : 0 ≤ (1 : Int) := (by omega); have q546 : 1 < (t542.length : Int) := zd; obtain ⟨ad546, e546, hx546_0⟩ := tI (rR HO544.out).2.2 1 p546 q546; obtain rfl : ad545 = ad546 := (by injection e546); (try simp only [show (1 : Int).toNat = 1 from rfl, Nat.reduceMul, Nat.reduceEqDiff, Go.Addr.add, ↓reduceIte] at hx546_0); have qi546 : (1 < t542.length) = True := eq_true (by omega); (try rw [show ((1 : Int)).toNat = 1 from rfl] at hx546_0); replace p546 := eq_true p546; replace q546 := eq_true q546; have p547 : 0 ≤ (2 : Int) := (by omega); have q547 : 2 < (t542.length : Int) := zd; obtain ⟨ad547, e547, hx547_0⟩ := tI (rR HO544.out).2.2 2 p547 q547; obtain rfl : ad545 = ad547 := (by injection e547); (try simp only [show (2 : Int).toNat = 2 from rfl, Nat.reduceMul, Nat.reduceEqDiff, Go.Addr.add, ↓reduceIte] at hx547_0); have qi547 : (2 < t542.length) = True := eq_true (by omega); (try rw [show ((2 : Int)).toNat = 2 from rfl] at hx547_0); replace p547 := eq_true p547; replace q547 := eq_true q547))
    repeat (go_quiet (first | ((with_reducible refine gD (N := 1) rfl ?_); refine zX (N := 1) (cs := #[.slice A0_0 l0_0.length c0_0, .slice A0_1 l0_1.length c0_1]) (t := 25) ?_; intro gb541 hg w6 hbox hb; have BK541 := A0_ (hbox); have GW541 := zG hg HB; have GE541 := zG hg HB; replace HB := zB HB hb; clear hb hbox hg; have hcz7_0 := zc0 BK541; have hcz7_1 := zc1 BK541; have hfz7_0 := kF BK541.out 0; have hfz7_1 := kF BK541.out 1) | (go_at_call 107; (with_reducible refine (spec_l2Counts.calls k _ _ l0_0 _ _ l0_1 t542 _ ?side1 ?side2 ?side3 ?side4 A2.out).mono ?_); (case side1 => exact zC HR0_0 HB); (case side2 => exact HC0_0.out); (case side3 => exact zC HR0_1 HB); (case side4 => exact HC0_1.out); rintro e w8 ⟨v543, rfl, ho0, hb⟩; have HO544 := A0_ (rL ho0 (bZ (zB_ HB))); replace BK541 := zK BK541 hb; replace HB := zB HB hb; (try clear hb); (try clear ho0); obtain ⟨Ao9, co9, eo9⟩ := rS HO544.out; subst eo9; have p545 : 0 ≤ (0 : Int) := (by omega); have q545 : 0 < (t542.length : Int) := zd; obtain ⟨ad545, e545, hx545_0⟩ := tI (rR HO544.out).2.2 0 p545 q545; cases e545; have qi545 : (0 < t542.length) = True := eq_true (by omega); (try rw [show ((0 : Int)).toNat = 0 from rfl] at hx545_0); (try rw [Addr.add_zero'] at hx545_0); replace p545 := eq_true p545; replace q545 := eq_true q545; have p546 : 0 ≤ (1 : Int) := (by omega); have q546 : 1 < (t542.length : Int) := zd; obtain ⟨ad546, e546, hx546_0⟩ := tI (rR HO544.out).2.2 1 p546 q546; obtain rfl : ad545 = ad546 := (by injection e546); (try simp only [show (1 : Int).toNat = 1 from rfl, Nat.reduceMul, Nat.reduceEqDiff, Go.Addr.add, ↓reduceIte] at hx546_0); have qi546 : (1 < t542.length) = True := eq_true (by omega); (try rw [show ((1 : Int)).toNat = 1 from rfl] at hx546_0); replace p546 := eq_true p546; replace q546 := eq_true q546; have p547 : 0 ≤ (2 : Int) := (by omega); have q547 : 2 < (t542.length : Int) := zd; obtain ⟨ad547, e547, hx547_0⟩ := tI (rR HO544.out).2.2 2 p547 q547; obtain rfl : ad545 = ad547 := (by injection e547); (try simp only [show (2 : Int).toNat = 2 from rfl, Nat.reduceMul, Nat.reduceEqDiff, Go.Addr.add, ↓reduceIte] at hx547_0); have qi547 : (2 < t542.length) = True := eq_true (by omega); (try rw [show ((2 : Int)).toNat = 2 from rfl] at hx547_0); replace p547 := eq_true p547; replace q547 := eq_true q547)); try go_wp2_with (first | ((with_reducible refine gD (N := 1) rfl ?_); refine zX (N := 1) (cs := #[.slice A0_0 l0_0.length c0_0, .slice A0_1 l0_1.length c0_1]) (t := 25) ?_; intro gb541 hg w6 hbox hb; have n0_ := zB HB hb; have n1_ := A0_ (hbox); have n2_ := zG hg HB; have n3_ := zG hg HB; clear HB; have HB := n0_; have BK541 := n1_; have GW541 := n2_; have GE541 := n3_; clear n0_ n1_ n2_ n3_ hb hbox hg; have hcz7_0 := zc0 BK541; have hcz7_1 := zc1 BK541; have hfz7_0 := kF BK541.out 0; have hfz7_1 := kF BK541.out 1) | (go_at_call 107; (with_reducible refine (spec_l2Counts.calls k _ _ l0_0 _ _ l0_1 t542 _ ?side1 ?side2 ?side3 ?side4 A2.out).mono ?_); (case side1 => exact zC HR0_0 HB); (case side2 => exact HC0_0.out); (case side3 => exact zC HR0_1 HB); (case side4 => exact HC0_1.out); rintro e w8 ⟨v543, rfl, ho0, hb⟩; have n0_ := A0_ (rL ho0 (bZ (zB_ HB))); have n1_ := zK BK541 hb; have n2_ := zB HB hb; clear BK541 HB; have HO544 := n0_; have BK541 := n1_; have HB := n2_; clear n0_ n1_ n2_; (try clear hb); (try clear hb2); (try clear hk); (try clear hi); (try clear ho0); obtain ⟨Ao9, co9, eo9⟩ := rS HO544.out; subst eo9; have p545 : 0 ≤ (0 : Int) := (by omega); have q545 : 0 < (t542.length : Int) := zd; obtain ⟨ad545, e545, hx545_0⟩ := tI (rR HO544.out).2.2 0 p545 q545; cases e545; have qi545 : (0 < t542.length) = True := eq_true (by omega); (try rw [show ((0 : Int)).toNat = 0 from rfl] at hx545_0); (try rw [Addr.add_zero'] at hx545_0); replace p545 := eq_true p545; replace q545 := eq_true q545; have p546 : 0 ≤ (1 : Int) := (by omega); have q546 : 1 < (t542.length : Int) := zd; obtain ⟨ad546, e546, hx546_0⟩ := tI (rR HO544.out).2.2 1 p546 q546; obtain rfl : ad545 = ad546 := (by injection e546); (try simp only [show (1 : Int).toNat = 1 from rfl, Nat.reduceMul, Nat.reduceEqDiff, Go.Addr.add, ↓reduceIte] at hx546_0); have qi546 : (1 < t542.length) = True := eq_true (by omega); (try rw [show ((1 : Int)).toNat = 1 from rfl] at hx546_0); replace p546 := eq_true p546; replace q546 := eq_true q546; have p547 : 0 ≤ (2 : Int) := (by omega); have q547 : 2 < (t542.length : Int) := zd; obtain ⟨ad547, e547, hx547_0⟩ := tI (rR HO544.out).2.2 2 p547 q547; obtain rfl : ad545 = ad547 := (by injection e547); (try simp only [show (2 : Int).toNat = 2 from rfl, Nat.reduceMul, Nat.reduceEqDiff, Go.Addr.add, ↓reduceIte] at hx547_0); have qi547 : (2 < t542.length) = True := eq_true (by omega); (try rw [show ((2 : Int)).toNat = 2 from rfl] at hx547_0); replace p547 := eq_true p547; replace q547 := eq_true q547)))
    go_ret
    exact ⟨by first | rfl | (simp [*] <;> rfl), zB_ HB⟩
   rw [if_neg c5] at H
   exact absurd H (by simp)
  rw [if_neg c4] at H
  exact absurd H (by simp)
 rw [if_neg c3] at H
 exact absurd H (by simp)

/-! ### spec_CoverGenus: function 19 -/
def spec_CoverGenus.f (k : Nat) (l0_0 : List Int) (l0_1 : List Int) (a1 : Int) (l2 : List (List Int)) : Option (Int) := (spec_CoverWhole.f k l0_0 l0_1 a1 l2).bind fun t549 => (if t549 = true then ((spec_l2Genus.f k l0_0 l0_1).bind fun t550 => ((spec_CoverBranch.f k l0_0 l0_1 a1 l2).bind fun t551 => (some (wrap64 (Int.tdiv (wrap64 ((wrap64 (2 + (wrap64 (a1 * (wrap64 ((wrap64 (2 * t550)) - 2)))))) + t551)) 2))))) else (some (-1)))
def spec_CoverGenus.T3 : Bool × List (List Nat × List Nat) := (true, [([], []), ([], []), ([1], [1]), ([2], [2]), ([3], [3]), ([0, 4], [0, 4]), ([5], [5]), ([], []), ([], []), ([], []), ([7, 8, 9, 2], [7, 8, 9]), ([6, 10], [6, 10]), ([11], [11]), ([12, 10, 0, 1, 2, 3, 4, 5, 6, 7, 8, 9, 10, 11, 12], [12])])
def spec_CoverGenus.B3 : List Nat := [0, 0, 2, 6, 14, 31, 63, 0, 0, 0, 902, 2047, 4095, 8191]
theorem spec_CoverGenus.tab3 : rtab .any (opsOf Try.f19 3) = spec_CoverGenus.T3 := by kernel_rfl
theorem spec_CoverGenus.bits3 : waitsOk spec_CoverGenus.T3.2 spec_CoverGenus.B3 = true := by kernel_rfl
set_option maxHeartbeats 8000000 in
set_option maxRecDepth 100000 in
theorem spec_CoverGenus.calls (k : Nat) (A0_0 : Option Addr) (c0_0 : Nat) (l0_0 : List Int) (A0_1 : Option Addr) (c0_1 : Nat) (l0_1 : List Int) (a1 : Int) (A2 : Option Addr) (c2 : Nat) (l2 : List (List Int)) (r : Int) (w : World) (hr0_0 : Kd.C (Kd.int .i64) w A0_0 l0_0.length l0_0) (hc0_0 : l0_0.length ≤ c0_0) (hr0_1 : Kd.C (Kd.int .i64) w A0_1 l0_1.length l0_1) (hc0_1 : l0_1.length ≤ c0_1) (hr2 : Kd.C (Kd.slice 3 (Kd.int .i64)) w A2 l2.length l2) (hc2 : l2.length ≤ c2) (h : spec_CoverGenus.f k l0_0 l0_1 a1 l2 = some r) :
    Calls Try.prog 19 #[.agg #[.slice A0_0 l0_0.length c0_0, .slice A0_1 l0_1.length c0_1], .int .i64 a1, .slice A2 l2.length c2] w fun e w' => e = .returned (.int .i64 r) ∧ Below w.heap.size w w' := by
 have hu25 := Try.underlying25; have HR0_0 := A0_ hr0_0; have HC0_0 := A0_ hc0_0; clear hr0_0 hc0_0; have HR0_1 := A0_ hr0_1; have HC0_1 := A0_ hc0_1; clear hr0_1 hc0_1; have HR2 := A0_ hr2; have HC2 := A0_ hc2; clear hr2 hc2
 have HB := A0_ (Below.refl w.heap.size w)
 have H : ((spec_CoverWhole.f k l0_0 l0_1 a1 l2).bind fun t549 => (if t549 = true then ((spec_l2Genus.f k l0_0 l0_1).bind fun t550 => ((spec_CoverBranch.f k l0_0 l0_1 a1 l2).bind fun t551 => (some (wrap64 (Int.tdiv (wrap64 ((wrap64 (2 + (wrap64 (a1 * (wrap64 ((wrap64 (2 * t550)) - 2)))))) + t551)) 2))))) else (some (-1)))) = some r := h
 clear h; obtain ⟨t549, A4, H⟩ := zbind H
 by_cases c5 : t549 = true
 ·subst c5
  rw [if_pos rfl] at H; obtain ⟨t550, A6, H⟩ := zbind H; obtain ⟨t551, A7, H⟩ := zbind H; obtain rfl := sI H
  go_enter Try.func19, Try.ntmps19
  try go_wp2_with (first | ((with_reducible refine gD (N := 3) rfl ?_); refine zX (N := 3) (cs := #[.slice A0_0 l0_0.length c0_0, .slice A0_1 l0_1.length c0_1]) (t := 25) ?_; intro gb548 hg w8 hbox hb; have BK548 := A0_ (hbox); have GW548 := zG hg HB; have GE548 := zG hg HB; replace HB := zB HB hb; clear hb hbox hg; have hcz9_0 := zc0 BK548; have hcz9_1 := zc1 BK548; have hfz9_0 := kF BK548.out 0; have hfz9_1 := kF BK548.out 1) | ((with_reducible refine gC (f := 13) rfl ?_); refine zJ (some 10) Try.func13 #[.agg #[.slice A0_0 l0_0.length c0_0, .slice A0_1 l0_1.length c0_1], .int .i64 a1, .slice A2 l2.length c2] ?_; (with_reducible refine (spec_CoverWhole.calls k _ _ l0_0 _ _ l0_1 a1 _ _ l2 true _ ?side1 ?side2 ?side3 ?side4 ?side5 ?side6 A4.out).mono ?_); (case side1 => exact zC HR0_0 HB); (case side2 => exact HC0_0.out); (case side3 => exact zC HR0_1 HB); (case side4 => exact HC0_1.out); (case side5 => exact zC HR2 HB); (case side6 => exact HC2.out); rintro e w10 ⟨rfl, hb⟩; refine ⟨_, rfl, ?_⟩; replace BK548 := zK BK548 hb; replace HB := zB HB hb; (try clear hb)))
  replace BK548 := A0_ (kD BK548.out)
  replace HB := A0_ (bD HB.out)
  refine start_ (n := 14) (S := fun w' => w'.cell? ⟨gb548, 0, none⟩ = some (.slice A0_0 l0_0.length c0_0) ∧ w'.cell? ⟨gb548, 1, none⟩ = some (.slice A0_1 l0_1.length c0_1)) (ds := []) #[false, false, false, false, false, false, false, false, false, false, false, false, false, false] (by kernel_rfl) rfl rfl ⟨(kC BK548.out 0).trans rfl, (kC BK548.out 1).trans rfl⟩ (fun hHeld => ?_); refine with_tabW spec_CoverGenus.tab3 spec_CoverGenus.bits3 (fun HT_ HW_ => ?_)
  generalize w10.drew = w11 at BK548 HB hHeld ⊢
  refine zP 0 (some 12) #[true,false,false,false,false,false,false,false,false,false,false,false,false,false] ?_
  refine zP 8 (some 20) #[true,false,false,false,false,false,false,false,true,false,false,false,false,false] ?_
  refine zP 9 (some 21) #[true,false,false,false,false,false,false,false,true,true,false,false,false,false] ?_
  refine take_ (i := 1) (N := some 13) (v := ?_) (a' := ?_) #[true, true, false, false, false, false, false, false, true, true, false, false, false, false] rfl rfl (take_ofW HT_.out HW_.out (by kernel_rfl)) (fun _ _ _ h => h) (Or.inl ⟨by rfl, ?_⟩) hHeld ?_ ?_
  rotate_left
  ·rintro w' ⟨s0, s1⟩
   go_simp
   with_reducible rfl
  rotate_left
  ·simp only [Act.put, List.setIfInBounds_toArray, List.set_cons_zero, List.set_cons_succ, i64_w, i32_w]
   rfl
  refine take_ (i := 7) (N := some 19) (v := ?_) (a' := ?_) #[true, true, false, false, false, false, false, true, true, true, false, false, false, false] rfl rfl (take_ofW HT_.out HW_.out (by kernel_rfl)) (fun _ _ _ h => h) (Or.inl ⟨by rfl, ?_⟩) hHeld ?_ ?_
  rotate_left
  ·rintro w' ⟨s0, s1⟩
   go_simp
   with_reducible rfl
  rotate_left
  ·simp only [Act.put, List.setIfInBounds_toArray, List.set_cons_zero, List.set_cons_succ, i64_w, i32_w]
   rfl
  refine one_ (i := 2) (N := some 14) #[true, true, true, false, false, false, false, true, true, true, false, false, false, false] rfl rfl (one_of HT_.out (by kernel_rfl)) (by decide) (fun K hK => ?_)
  refine goes_ Try.func67 (by kernel_rfl) rfl #[.agg #[.slice A0_0 l0_0.length c0_0, .slice A0_1 l0_1.length c0_1]] (by rfl) rfl rfl (by (try simp only [List.map_toArray, List.map_cons, List.map_nil]); first | done | rfl | (simp only [List.length_drop, List.length_take]; rfl)) ?_
  with_reducible refine (spec_l2Genus.calls k _ _ l0_0 _ _ l0_1 t550 _ ?side1 ?side2 ?side3 ?side4 A6.out).mono ?_
  (case side1 => exact zC HR0_0 HB)
  (case side2 => exact HC0_0.out)
  (case side3 => exact zC HR0_1 HB)
  (case side4 => exact HC0_1.out)
  rintro e w12 ⟨rfl, hb⟩
  refine ⟨_, rfl, ?_⟩
  replace BK548 := zK BK548 hb; replace HB := zB HB hb; (try clear hb); (try clear hb2); (try clear hk); (try clear hi)
  refine hK.out _ _ ⟨(kC BK548.out 0).trans rfl, (kC BK548.out 1).trans rfl⟩ (fun hHeld => ?_)
  clear hK K
  refine norm_ (a' := ?_) ?_ ?_
  rotate_left
  ·show Act.put _ (some 14) _ = _
   simp only [Act.put, List.setIfInBounds_toArray, List.set_cons_zero, List.set_cons_succ, i64_w, i32_w]
   rfl
  refine zP 3 (some 15) #[true,true,true,true,false,false,false,true,true,true,false,false,false,false] ?_
  refine zP 4 (some 16) #[true,true,true,true,true,false,false,true,true,true,false,false,false,false] ?_
  refine zP 5 (some 17) #[true,true,true,true,true,true,false,true,true,true,false,false,false,false] ?_
  refine zP 6 (some 18) #[true,true,true,true,true,true,true,true,true,true,false,false,false,false] ?_
  refine one_ (i := 10) (N := some 22) #[true, true, true, true, true, true, true, true, true, true, true, false, false, false] rfl rfl (one_of HT_.out (by kernel_rfl)) (by decide) (fun K hK => ?_)
  refine goes_ Try.func24 (by kernel_rfl) rfl #[.agg #[.slice A0_0 l0_0.length c0_0, .slice A0_1 l0_1.length c0_1], .int .i64 a1, .slice A2 l2.length c2] (by rfl) rfl rfl (by (try simp only [List.map_toArray, List.map_cons, List.map_nil]); first | done | rfl | (simp only [List.length_drop, List.length_take]; rfl)) ?_
  with_reducible refine (spec_CoverBranch.calls k _ _ l0_0 _ _ l0_1 a1 _ _ l2 t551 _ ?side1 ?side2 ?side3 ?side4 ?side5 ?side6 A7.out).mono ?_
  (case side1 => exact zC HR0_0 HB)
  (case side2 => exact HC0_0.out)
  (case side3 => exact zC HR0_1 HB)
  (case side4 => exact HC0_1.out)
  (case side5 => exact zC HR2 HB)
  (case side6 => exact HC2.out)
  rintro e w13 ⟨rfl, hb⟩
  refine ⟨_, rfl, ?_⟩
  replace BK548 := zK BK548 hb; replace HB := zB HB hb; (try clear hb); (try clear hb2); (try clear hk); (try clear hi)
  refine hK.out _ _ ⟨(kC BK548.out 0).trans rfl, (kC BK548.out 1).trans rfl⟩ (fun hHeld => ?_)
  clear hK K
  refine norm_ (a' := ?_) ?_ ?_
  rotate_left
  ·show Act.put _ (some 22) _ = _
   simp only [Act.put, List.setIfInBounds_toArray, List.set_cons_zero, List.set_cons_succ, i64_w, i32_w]
   rfl
  refine zP 11 (some 23) #[true,true,true,true,true,true,true,true,true,true,true,true,false,false] ?_
  refine zP 12 (some 24) #[true,true,true,true,true,true,true,true,true,true,true,true,true,false] ?_
  refine zP 13 (some 6) #[true,true,true,true,true,true,true,true,true,true,true,true,true,true] ?_
  refine done_ (done_of HT_.out (by kernel_rfl)) ?_
  try go_wp2
  go_ret
  exact ⟨by first | rfl | (simp [*] <;> rfl), zB_ HB⟩
 replace c5 := Bool.eq_false_iff.mpr c5; subst c5
 rw [if_neg (show ¬ (false = true) by decide)] at H
 obtain rfl := sI H
 go_enter Try.func19, Try.ntmps19
 go_wp2_with (first | ((with_reducible refine gD (N := 3) rfl ?_); refine zX (N := 3) (cs := #[.slice A0_0 l0_0.length c0_0, .slice A0_1 l0_1.length c0_1]) (t := 25) ?_; intro gb548 hg w14 hbox hb; have BK548 := A0_ (hbox); have GW548 := zG hg HB; have GE548 := zG hg HB; replace HB := zB HB hb; clear hb hbox hg; have hcz15_0 := zc0 BK548; have hcz15_1 := zc1 BK548; have hfz15_0 := kF BK548.out 0; have hfz15_1 := kF BK548.out 1) | ((with_reducible refine gC (f := 13) rfl ?_); refine zJ (some 10) Try.func13 #[.agg #[.slice A0_0 l0_0.length c0_0, .slice A0_1 l0_1.length c0_1], .int .i64 a1, .slice A2 l2.length c2] ?_; (with_reducible refine (spec_CoverWhole.calls k _ _ l0_0 _ _ l0_1 a1 _ _ l2 false _ ?side1 ?side2 ?side3 ?side4 ?side5 ?side6 A4.out).mono ?_); (case side1 => exact zC HR0_0 HB); (case side2 => exact HC0_0.out); (case side3 => exact zC HR0_1 HB); (case side4 => exact HC0_1.out); (case side5 => exact zC HR2 HB); (case side6 => exact HC2.out); rintro e w16 ⟨rfl, hb⟩; refine ⟨_, rfl, ?_⟩; replace BK548 := zK BK548 hb; replace HB := zB HB hb; (try clear hb)))
 go_ret
 exact ⟨by first | rfl | (simp [*] <;> rfl), zB_ HB⟩

end Go.Proofs.Ytmegggomhjgehaa.PFnCoverGenus
