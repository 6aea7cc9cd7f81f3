-- Made by a program of this session (wip/tools) out of the loaded program; not trusted: Lean checks it.
import Derived.Test.YtmcgkckdnelcdaaPFnExactCoverConjx0
import Derived.Test.YtmcgkckdnelcdaaPFnExactCoverConjx6
import Derived.Test.YtmcgkckdnelcdaaPFnExactCoverConjx7
import Derived.Test.YtmcgkckdnelcdaaPFnExactCoverConjx8
-- packed
namespace Go.Proofs.Ytmcgkckdnelcdaa.PFnExactCoverConj
open Go.RowKit Go.Proofs.YtmcgkckdnelcdaaW.PrintWords Go.Proofs.YtmcgkckdnelcdaaW.PrintLast Go.Proofs.YtmcgkckdnelcdaaW.PrintMore
attribute [local go_sem] max2_int min2_int max_two min_two max_three min_three max_four min_four   -- for this text's walks alone
set_option linter.unusedVariables false
set_option linter.unusedSimpArgs false

/-! ### impl_conjAt: function 83 -/
def impl_conjAt.l0 : Nat → List (List Int) → Int → List Int → List Int → List (List Int) → List Int → Int → Int → List Int → List Int → Option ((List (List Int)))
  | 0, _, _, _, _, _, _, _, _, _, _ => none
  | k + 1, x1, x2, x3, x9, x10, x18, x19, x20, x397000, x397001 => if x20 < x19 then (if 0 ≤ x20 then (if x20 < (x18.length : Int) then (if x20 < (x1.length : Int) then ((slices_Clone_int_int.f (rd_L1 x1 x20)).bind fun t408 => (if 0 ≤ (rd x18 x20) then (if (rd x18 x20) < (x9.length : Int) then (if (rd x9 (rd x18 x20)) = x2 then ((impl_back.f k x3).bind fun t412 => ((impl_mul.f k t412 t408).bind fun t415 => (if (rd x18 x20) < (x397001.length : Int) then (if 0 ≤ (rd x397001 (rd x18 x20)) then (if (rd x397001 (rd x18 x20)) < (x9.length : Int) then (if (rd x9 (rd x397001 (rd x18 x20))) = x2 then ((impl_mul.f k t415 x3).bind fun t420 => (if x10.length < 5864062014805 then (impl_conjAt.l0 k x1 x2 x3 x9 (x10 ++ [t420]) x18 x19 (wrap64 (x20 + 1)) x397000 x397001) else (none))) else (if x10.length < 5864062014805 then (impl_conjAt.l0 k x1 x2 x3 x9 (x10 ++ [t415]) x18 x19 (wrap64 (x20 + 1)) x397000 x397001) else (none))) else (none)) else (none)) else (none)))) else (if (rd x18 x20) < (x397001.length : Int) then (if 0 ≤ (rd x397001 (rd x18 x20)) then (if (rd x397001 (rd x18 x20)) < (x9.length : Int) then (if (rd x9 (rd x397001 (rd x18 x20))) = x2 then ((impl_mul.f k t408 x3).bind fun t431 => (if x10.length < 5864062014805 then (impl_conjAt.l0 k x1 x2 x3 x9 (x10 ++ [t431]) x18 x19 (wrap64 (x20 + 1)) x397000 x397001) else (none))) else (if x10.length < 5864062014805 then (impl_conjAt.l0 k x1 x2 x3 x9 (x10 ++ [t408]) x18 x19 (wrap64 (x20 + 1)) x397000 x397001) else (none))) else (none)) else (none)) else (none))) else (none)) else (none))) else (none)) else (none)) else (none)) else (some x10)
def impl_conjAt.f (k : Nat) (l0_0 : List Int) (l0_1 : List Int) (l1 : List (List Int)) (a2 : Int) (l3 : List Int) : Option ((List (List Int))) := (impl_vertexOf.f k l0_0 l0_1).bind fun t397 => ((impl_edgesOf.f k l0_0 l0_1).bind fun t403 => (impl_conjAt.l0 k l1 a2 l3 t397 (([] : List (List Int))) t403 (t403.length : Int) 0 l0_0 l0_1))
set_option maxHeartbeats 8000000 in
set_option maxRecDepth 100000 in
theorem impl_conjAt.calls (k : Nat) (A0_0 : Option Addr) (c0_0 : Nat) (l0_0 : List Int) (A0_1 : Option Addr) (c0_1 : Nat) (l0_1 : List Int) (A1 : Option Addr) (c1 : Nat) (l1 : List (List Int)) (a2 : Int) (A3 : Option Addr) (c3 : Nat) (l3 : List Int) (r : List (List Int)) (w : World) (hr0_0 : Kd.C (Kd.int .i64) w A0_0 l0_0.length l0_0) (hc0_0 : l0_0.length ≤ c0_0) (hr0_1 : Kd.C (Kd.int .i64) w A0_1 l0_1.length l0_1) (hc0_1 : l0_1.length ≤ c0_1) (hr1 : Kd.C (Kd.slice 3 (Kd.int .i64)) w A1 l1.length l1) (hc1 : l1.length ≤ c1) (hr3 : Kd.C (Kd.int .i64) w A3 l3.length l3) (hc3 : l3.length ≤ c3) (h : impl_conjAt.f k l0_0 l0_1 l1 a2 l3 = some r) :
    Calls Try.prog 83 #[.agg #[.slice A0_0 l0_0.length c0_0, .slice A0_1 l0_1.length c0_1], .slice A1 l1.length c1, .int .i64 a2, .slice A3 l3.length c3] w fun e w' => ∃ v0_ : Value, e = .returned (v0_) ∧ Kd.S (Kd.slice 3 (Kd.int .i64)) 22 w' w.heap.size (fun _ => True) v0_ r ∧ Below w.heap.size w w' := by
 have hu29 := Try.underlying29; have HR0_0 := A0_ hr0_0; have HC0_0 := A0_ hc0_0; clear hr0_0 hc0_0; have HR0_1 := A0_ hr0_1; have HC0_1 := A0_ hc0_1; clear hr0_1 hc0_1; have HR1 := A0_ hr1; have HC1 := A0_ hc1; clear hr1 hc1; have HR3 := A0_ hr3; have HC3 := A0_ hc3; clear hr3 hc3
 have HB := A0_ (Below.refl w.heap.size w)
 have H : ((impl_vertexOf.f k l0_0 l0_1).bind fun t397 => ((impl_edgesOf.f k l0_0 l0_1).bind fun t403 => (impl_conjAt.l0 k l1 a2 l3 t397 (([] : List (List Int))) t403 (t403.length : Int) 0 l0_0 l0_1))) = some r := h
 clear h; obtain ⟨t397, A5, H⟩ := zbind H
 obtain ⟨y400, hy400⟩ : ∃ y_ : List (List Int), y_ = (([] : List (List Int))) := ⟨_, rfl⟩
 replace H : ((impl_edgesOf.f k l0_0 l0_1).bind fun t403 => (impl_conjAt.l0 k l1 a2 l3 t397 y400 t403 (t403.length : Int) 0 l0_0 l0_1)) = some r := zH hy400 H
 have Ny400 := A0_ hy400; clear hy400; obtain ⟨t403, A6, H⟩ := zbind H; have H' := A0_ H; clear H
 go_enter Try.func83, Try.ntmps83
 go_wp2_with (first | ((with_reducible refine gD (N := 4) rfl ?_); refine zX (N := 4) (cs := #[.slice A0_0 l0_0.length c0_0, .slice A0_1 l0_1.length c0_1]) (t := 29) ?_; intro gb396 hg w7 hbox hb; have BK396 := A0_ (hbox); have GW396 := zG hg HB; have GE396 := zG hg HB; replace HB := zB HB hb; clear hb hbox hg; have hcz8_0 := zc0 BK396; have hcz8_1 := zc1 BK396; have hfz8_0 := kF BK396.out 0; have hfz8_1 := kF BK396.out 1) | ((with_reducible refine gC (f := 84) rfl ?_); refine zJ (some 15) Try.func84 #[.agg #[.slice A0_0 l0_0.length c0_0, .slice A0_1 l0_1.length c0_1]] ?_; (with_reducible refine (impl_vertexOf.calls k _ _ l0_0 _ _ l0_1 t397 _ ?side1 ?side2 ?side3 ?side4 A5.out).mono ?_); (case side1 => exact zC HR0_0 HB); (case side2 => exact HC0_0.out); (case side3 => exact zC HR0_1 HB); (case side4 => exact HC0_1.out); rintro e w9 ⟨v398, rfl, ho0, hb⟩; refine ⟨_, rfl, ?_⟩; have HO399 := A0_ (rL ho0 (bZ (zB_ HB))); replace BK396 := zK BK396 hb; replace HB := zB HB hb; (try clear hb); (try clear ho0)) | ((with_reducible refine gD (N := 16) rfl ?_); refine Kd.S_lit (Kd.slice 3 (Kd.int .i64)) _ 22 ?hg (N := 16) ?hd (xs := ([] : List (List Int))) (inner := []) (ok := fun _ => True) (okp := fun _ => True) ?hr ?hp (fun _ hk => hk) trivial (Below.refl _ _) (Nat.le_refl _) (by simp) ?_; (case hd => rfl); (case hg => rfl); (case hr => first | (go_simp; done) | (go_simp; rfl)); (case hp => exact (Reps.none _ _)); intro v401 w10 ho11 hb hg_ hnew_; clear hg_ hnew_; (first | rw [← Ny400.out] at ho11 | (simp only [Int.reduceToNat] at ho11; rw [← Ny400.out] at ho11)); have HO402 := A0_ (Kd.S_lower (Kd.S_new' ho11 (rX (zR_ HO399))) (bZ (zB_ HB))); replace HO399 := zR HO399 hb; replace BK396 := zK BK396 hb; replace HB := zB HB hb; clear hb ho11; have hcz12_0 := zc0 BK396; have hcz12_1 := zc1 BK396; have hfz12_0 := kF BK396.out 0; have hfz12_1 := kF BK396.out 1) | ((with_reducible refine gC (f := 105) rfl ?_); refine zJ (some 18) Try.func105 #[.agg #[.slice A0_0 l0_0.length c0_0, .slice A0_1 l0_1.length c0_1]] ?_; (with_reducible refine (impl_edgesOf.calls k _ _ l0_0 _ _ l0_1 t403 _ ?side1 ?side2 ?side3 ?side4 A6.out).mono ?_); (case side1 => exact zC HR0_0 HB); (case side2 => exact HC0_0.out); (case side3 => exact zC HR0_1 HB); (case side4 => exact HC0_1.out); rintro e w13 ⟨v404, rfl, ho0, hb⟩; refine ⟨_, rfl, ?_⟩; replace HO402 := A0_ (Kd.S_elder' (zS_ HO402) (Kd.R_base ho0) hb); have HO405 := A0_ (rL (Kd.R_new' ho0 (rX (zR_ HO399))) (bZ (zB_ HB))); replace HO399 := A0_ (Kd.R_elder' (zR_ HO399) (Kd.R_base ho0) hb); replace BK396 := zK BK396 hb; replace HB := zB HB hb; (try clear hb); (try clear ho0); obtain ⟨Ao14, co14, eo14⟩ := rS HO405.out; subst eo14))
 go_loopg [10, 20] k (fun kq v10 v20 w' => ∃ (x10_1 : List (List Int)) (x20_1 : Int), v20 = .int .i64 x20_1 ∧ Aside0 (impl_conjAt.l0 kq l1 a2 l3 t397 x10_1 t403 (t403.length : Int) x20_1 l0_0 l0_1 = some r) ∧ Aside0 (kq ≤ k) ∧ Aside0 (Kd.R (Kd.int .i64) 3 w' w.heap.size (fun k_ => some k_ ≠ ((.slice Ao14 t403.length co14) : Value).ownBlock) v398 t397) ∧ Aside0 (Kd.S (Kd.slice 3 (Kd.int .i64)) 22 w' w.heap.size (fun k_ => some k_ ≠ (v398 : Value).ownBlock ∧ some k_ ≠ ((.slice Ao14 t403.length co14) : Value).ownBlock) v10 x10_1) ∧ Aside0 (Kd.R (Kd.int .i64) 3 w' w.heap.size (fun k_ => some k_ ≠ (v398 : Value).ownBlock) (.slice Ao14 t403.length co14) t403) ∧ Aside0 (w'.heap[gb396]? = some (.cells #[(.slice A0_0 l0_0.length c0_0), (.slice A0_1 l0_1.length c0_1)] 29 (0, 0))) ∧ Aside0 (Below w.heap.size w w'))
 case atStart => exact ⟨(y400), (0), zt, H', ⟨Nat.le_refl _⟩, ⟨zmR HO399 (fun _ hk => hk.2)⟩, ⟨zmS HO402 (fun _ hk => ⟨hk.1.2, hk.2⟩)⟩, ⟨zmR HO405 (fun _ hk => hk.2)⟩, ⟨zK_ BK396⟩, ⟨zB_ HB⟩⟩
 case round =>
  clear H'; (try clear c1); (try clear p2); (try clear c3); (try clear c8); (try clear c10); (try clear hcz12_0); (try clear hcz12_1); (try clear hcz8_0); (try clear hcz8_1); (try clear hfz12_0); (try clear hfz12_1); (try clear hfz8_0); (try clear hfz8_1); obtain ⟨x10_1, x20_1, rfl, HA, HK1, HO_9, HO_10, HO_18, BK396, HB⟩ := hrel
  cases gk with
  | zero => exact absurd HA.out (by simp [impl_conjAt.l0])
  | succ k1 =>
   have H := HA.out; clear HA; simp only [impl_conjAt.l0] at H
   by_cases c15 : x20_1 < (t403.length : Int)
   ·rw [if_pos c15] at H
    have c15b0 := dT c15; clear c15
    by_cases c16 : 0 ≤ x20_1
    ·rw [if_pos c16] at H
     have c16b0 := dT c16; clear c16
     by_cases c17 : x20_1 < (t403.length : Int)
     ·rw [if_pos c17] at H
      have c17b0 := dT c17; clear c17
      by_cases c18 : x20_1 < (l1.length : Int)
      ·rw [if_pos c18] at H
       have c18b0 := dT c18; clear c18; obtain ⟨t408, A19, H⟩ := zbind H
       by_cases c20 : 0 ≤ (rd t403 x20_1)
       ·rw [if_pos c20] at H
        have c20b0 := dT c20; clear c20
        by_cases c21 : (rd t403 x20_1) < (t397.length : Int)
        ·rw [if_pos c21] at H
         have c21b0 := dT c21; clear c21
         by_cases c22 : (rd t397 (rd t403 x20_1)) = a2
         ·rw [if_pos c22] at H
          have c22b0 : ((rd t397 (rd t403 x20_1)) == a2) = true := beq_iff_eq.mpr c22
          have c22b1 : ((rd t397 (rd t403 x20_1)) != a2) = false := bne_eq_false_iff_eq.mpr c22
          clear c22; obtain ⟨t412, A23, H⟩ := zbind H; obtain ⟨t415, A24, H⟩ := zbind H
          by_cases c25 : (rd t403 x20_1) < (l0_1.length : Int)
          ·rw [if_pos c25] at H
           have c25b0 := dT c25; clear c25
           by_cases c26 : 0 ≤ (rd l0_1 (rd t403 x20_1))
           ·rw [if_pos c26] at H
            have c26b0 := dT c26; clear c26
            by_cases c27 : (rd l0_1 (rd t403 x20_1)) < (t397.length : Int)
            ·rw [if_pos c27] at H
             have c27b0 := dT c27; clear c27
             by_cases c28 : (rd t397 (rd l0_1 (rd t403 x20_1))) = a2
             ·rw [if_pos c28] at H
              have c28b0 : ((rd t397 (rd l0_1 (rd t403 x20_1))) == a2) = true := beq_iff_eq.mpr c28
              have c28b1 : ((rd t397 (rd l0_1 (rd t403 x20_1))) != a2) = false := bne_eq_false_iff_eq.mpr c28
              clear c28; obtain ⟨t420, A29, H⟩ := zbind H
              by_cases c30 : x10_1.length < 5864062014805
              ·rw [if_pos c30] at H
               have LMc30 := A0_ c30; clear c30
               obtain ⟨y423, hy423⟩ : ∃ y_ : List (List Int), y_ = (x10_1 ++ [t420]) := ⟨_, rfl⟩
               replace H : (impl_conjAt.l0 k1 l1 a2 l3 t397 y423 t403 (t403.length : Int) (wrap64 (x20_1 + 1)) l0_0 l0_1) = some r := zH hy423 H
               have Ny423 := A0_ hy423; clear hy423; have H' := A0_ H; clear H
               have p406 : 0 ≤ (x20_1 : Int) := zd
               have q406 : x20_1 < (t403.length : Int) := zd
               obtain ⟨ad406, e406, hx406_0⟩ := tI (rR HO_18.out).2.2 x20_1 p406 q406
               cases e406
               replace p406 := eq_true p406; replace q406 := eq_true q406
               have p407 : 0 ≤ (x20_1 : Int) := zd
               have q407 : x20_1 < (l1.length : Int) := zd
               obtain ⟨ad407, A407_0, c407_0, e407, hx407_0, hl407_0, hi407_0⟩ := at_L1 HR1.out x20_1 p407 q407
               cases e407
               try replace hx407_0 := (HB.out.cell (wL w _ hx407_0)).trans hx407_0
               have HR407_0 := A0_ hi407_0; have HC407_0 := A0_ hl407_0; clear hi407_0 hl407_0; replace p407 := eq_true p407; replace q407 := eq_true q407
               go_wp2_with (first | ((with_reducible refine gC (f := 102) rfl ?_); refine zJ (some 29) Try.func102 #[.slice A407_0 (rd_L1 l1 x20_1).length c407_0] ?_; (with_reducible refine (slices_Clone_int_int.calls _ _ (rd_L1 l1 x20_1) t408 _ ?side1 ?side2 A19.out).mono ?_); (case side1 => exact zC HR407_0 HB); (case side2 => exact HC407_0.out); rintro e w31 ⟨v409, rfl, ho0, hb⟩; refine ⟨_, rfl, ?_⟩; replace HO_10 := A0_ (Kd.S_elder' (zS_ HO_10) (Kd.R_base ho0) hb); have HO410 := A0_ (rL (Kd.R_new' (Kd.R_new' ho0 (rX (zR_ HO_9))) (rX (zR_ HO_18))) (bZ (zB_ HB))); replace HO_9 := A0_ (Kd.R_elder' (zR_ HO_9) (Kd.R_base ho0) hb); replace HO_18 := A0_ (Kd.R_elder' (zR_ HO_18) (Kd.R_base ho0) hb); replace BK396 := zK BK396 hb; replace HB := zB HB hb; (try clear hb); (try clear ho0); obtain ⟨Ao32, co32, eo32⟩ := rS HO_9.out; subst eo32; have p411 : 0 ≤ ((rd t403 x20_1) : Int) := zd; have q411 : (rd t403 x20_1) < (t397.length : Int) := zd; obtain ⟨ad411, e411, hx411_0⟩ := tI (rR HO_9.out).2.2 (rd t403 x20_1) p411 q411; cases e411; replace p411 := eq_true p411; replace q411 := eq_true q411) | ((with_reducible refine gC (f := 89) rfl ?_); refine zJ (some 37) Try.func89 #[.slice A3 l3.length c3] ?_; (with_reducible refine (impl_back.calls k1 _ _ l3 t412 _ ?side1 ?side2 A23.out).mono ?_); (case side1 => exact zC HR3 HB); (case side2 => exact HC3.out); rintro e w33 ⟨v413, rfl, ho0, hb⟩; refine ⟨_, rfl, ?_⟩; replace HO_10 := A0_ (Kd.S_elder' (zS_ HO_10) (Kd.R_base ho0) hb); have HO414 := A0_ (rL (Kd.R_new' (Kd.R_new' (Kd.R_new' ho0 (rX (zR_ HO_9))) (rX (zR_ HO_18))) (rX (zR_ HO410))) (bZ (zB_ HB))); replace HO_9 := A0_ (Kd.R_elder' (zR_ HO_9) (Kd.R_base ho0) hb); replace HO_18 := A0_ (Kd.R_elder' (zR_ HO_18) (Kd.R_base ho0) hb); replace HO410 := A0_ (Kd.R_elder' (zR_ HO410) (Kd.R_base ho0) hb); replace BK396 := zK BK396 hb; replace HB := zB HB hb; (try clear hb); (try clear ho0); obtain ⟨Ao34, co34, eo34⟩ := rS HO414.out; subst eo34; obtain ⟨Ao35, co35, eo35⟩ := rS HO410.out; subst eo35) | ((with_reducible refine gC (f := 71) rfl ?_); refine zJ (some 39) Try.func71 #[.slice Ao34 t412.length co34, .slice Ao35 t408.length co35] ?_; (with_reducible refine (impl_mul.calls k1 _ _ t412 _ _ t408 t415 _ ?side1 ?side2 ?side3 ?side4 A24.out).mono ?_); (case side1 => exact zD HO414); (case side2 => exact (rR HO414.out).2.1); (case side3 => exact zD HO410); (case side4 => exact (rR HO410.out).2.1); rintro e w36 ⟨v416, rfl, ho0, hb⟩; refine ⟨_, rfl, ?_⟩; replace HO_10 := A0_ (Kd.S_elder' (zS_ HO_10) (Kd.R_base ho0) hb); have HO417 := A0_ (rL (Kd.R_new' (Kd.R_new' (Kd.R_new' (Kd.R_new' ho0 (rX (zR_ HO_9))) (rX (zR_ HO_18))) (rX (zR_ HO410))) (rX (zR_ HO414))) (bZ (zB_ HB))); replace HO_9 := A0_ (Kd.R_elder' (zR_ HO_9) (Kd.R_base ho0) hb); replace HO_18 := A0_ (Kd.R_elder' (zR_ HO_18) (Kd.R_base ho0) hb); replace HO410 := A0_ (Kd.R_elder' (zR_ HO410) (Kd.R_base ho0) hb); replace HO414 := A0_ (Kd.R_elder' (zR_ HO414) (Kd.R_base ho0) hb); replace BK396 := zK BK396 hb; replace HB := zB HB hb; (try clear hb); (try clear ho0); have hcz37_0 := zc0 BK396; have hcz37_1 := zc1 BK396; have hfz37_0 := kF BK396.out 0; have hfz37_1 := kF BK396.out 1; have p418 : 0 ≤ ((rd t403 x20_1) : Int) := zd; have q418 : (rd t403 x20_1) < (l0_1.length : Int) := zd; obtain ⟨ad418, e418, hx418_0⟩ := tI HR0_1.out (rd t403 x20_1) p418 q418; cases e418; try replace hx418_0 := (HB.out.cell (wL w _ hx418_0)).trans hx418_0; replace p418 := eq_true p418; replace q418 := eq_true q418; have p419 : 0 ≤ ((rd l0_1 (rd t403 x20_1)) : Int) := zd; have q419 : (rd l0_1 (rd t403 x20_1)) < (t397.length : Int) := zd; obtain ⟨ad419, e419, hx419_0⟩ := tI (rR HO_9.out).2.2 (rd l0_1 (rd t403 x20_1)) p419 q419; obtain rfl : ad411 = ad419 := (by injection e419); replace p419 := eq_true p419; replace q419 := eq_true q419; obtain ⟨Ao38, co38, eo38⟩ := rS HO417.out; subst eo38) | ((with_reducible refine gC (f := 71) rfl ?_); refine zJ (some 52) Try.func71 #[.slice Ao38 t415.length co38, .slice A3 l3.length c3] ?_; (with_reducible refine (impl_mul.calls k1 _ _ t415 _ _ l3 t420 _ ?side1 ?side2 ?side3 ?side4 A29.out).mono ?_); (case side1 => exact zD HO417); (case side2 => exact (rR HO417.out).2.1); (case side3 => exact zC HR3 HB); (case side4 => exact HC3.out); rintro e w39 ⟨v421, rfl, ho0, hb⟩; refine ⟨_, rfl, ?_⟩; replace HO_10 := A0_ (Kd.S_elder' (zS_ HO_10) (Kd.R_base ho0) hb); have HO422 := A0_ (rL (Kd.R_new' (Kd.R_new' (Kd.R_new' (Kd.R_new' (Kd.R_new' ho0 (rX (zR_ HO_9))) (rX (zR_ HO_18))) (rX (zR_ HO410))) (rX (zR_ HO414))) (rX (zR_ HO417))) (bZ (zB_ HB))); replace HO_9 := A0_ (Kd.R_elder' (zR_ HO_9) (Kd.R_base ho0) hb); replace HO_18 := A0_ (Kd.R_elder' (zR_ HO_18) (Kd.R_base ho0) hb); replace HO410 := A0_ (Kd.R_elder' (zR_ HO410) (Kd.R_base ho0) hb); replace HO414 := A0_ (Kd.R_elder' (zR_ HO414) (Kd.R_base ho0) hb); replace HO417 := A0_ (Kd.R_elder' (zR_ HO417) (Kd.R_base ho0) hb); replace BK396 := zK BK396 hb; replace HB := zB HB hb; (try clear hb); (try clear ho0); obtain ⟨Ao41, co41, eo41⟩ := rS HO422.out; subst eo41) | ((with_reducible refine gB (b := .append) (xs := #[.tmp 53, .tmp 55]) rfl ?_); at_builtin; refine Kd.S_append (Kd.slice 3 (Kd.int .i64)) (w0 := w) w.heap.size rfl (.tmp 53) (.tmp 55) 25 22 (.slice none 0 0) 24 rfl Try.underlying25 info22 rfl (by decide) (by omega) u10 x10_1 t420 [.slice Ao41 t420.length co41] (fun k_ => some k_ ≠ (.slice (some ad411) t397.length co32 : Value).ownBlock ∧ some k_ ≠ (.slice (some ad406) t403.length co14 : Value).ownBlock ∧ some k_ ≠ (.slice Ao35 t408.length co35 : Value).ownBlock ∧ some k_ ≠ (.slice Ao34 t412.length co34 : Value).ownBlock ∧ some k_ ≠ (.slice Ao38 t415.length co38 : Value).ownBlock) (fun k_ => some k_ = (.slice Ao41 t420.length co41 : Value).ownBlock) rfl rfl ?aP (fun k_ hk_ => ((rM (ok' := fun k_ => ((fun k_ => some k_ ≠ (.slice (some ad411) t397.length co32 : Value).ownBlock ∧ some k_ ≠ (.slice (some ad406) t403.length co14 : Value).ownBlock ∧ some k_ ≠ (.slice Ao35 t408.length co35 : Value).ownBlock ∧ some k_ ≠ (.slice Ao34 t412.length co34 : Value).ownBlock ∧ some k_ ≠ (.slice Ao38 t415.length co38 : Value).ownBlock)) k_ ∧ some k_ ≠ (u10 : Value).ownBlock) (Kd.R_apart' (HO422.out) (Kd.S_typed HO_10.out) (by decide)) (fun k_ hk => ⟨⟨hk.1.1.1.1.1.2, ⟨hk.1.1.1.1.2, ⟨hk.1.1.1.2, ⟨hk.1.1.2, hk.1.2⟩⟩⟩⟩, hk.2⟩))).1 k_ hk_.symm) ?aF ?aO ?aB ?aS ?aL ?_; (case aP => exact Kd.M_row (rM (Kd.R_tight rfl (rM (ok' := fun k_ => ((fun k_ => some k_ ≠ (.slice (some ad411) t397.length co32 : Value).ownBlock ∧ some k_ ≠ (.slice (some ad406) t403.length co14 : Value).ownBlock ∧ some k_ ≠ (.slice Ao35 t408.length co35 : Value).ownBlock ∧ some k_ ≠ (.slice Ao34 t412.length co34 : Value).ownBlock ∧ some k_ ≠ (.slice Ao38 t415.length co38 : Value).ownBlock)) k_ ∧ some k_ ≠ (u10 : Value).ownBlock) (Kd.R_apart' (HO422.out) (Kd.S_typed HO_10.out) (by decide)) (fun k_ hk => ⟨⟨hk.1.1.1.1.1.2, ⟨hk.1.1.1.1.2, ⟨hk.1.1.1.2, ⟨hk.1.1.2, hk.1.2⟩⟩⟩⟩, hk.2⟩))) (fun _ h_ => h_))); (case aB => exact (zB_ HB)); (case aF => exact (fun k_ hk => ⟨Kd.fresh' (rX (zR_ HO_9)) k_ hk, Kd.fresh' (rX (zR_ HO_18)) k_ hk, Kd.fresh' (rX (zR_ HO410)) k_ hk, Kd.fresh' (rX (zR_ HO414)) k_ hk, Kd.fresh' (rX (zR_ HO417)) k_ hk⟩)); (case aO => exact (zmS HO_10 (fun k_ hk => ⟨⟨hk.1.1.1.1.1, ⟨hk.1.1.1.1.2, ⟨hk.1.1.1.2, ⟨hk.1.1.2, hk.1.2⟩⟩⟩⟩, fun e_ => hk.2 e_⟩))); (case aS => exact (bZ (zB_ HB))); (case aL => have := LMc30.out; omega); intro v424 w40 ho hb hg hat; rw [← Ny423.out] at ho; replace HO_9 := A0_ (Kd.R_over' (zR_ HO_9) (Kd.S_typed (zS_ HO_10)) (by decide) hg); replace HO_18 := A0_ (Kd.R_over' (zR_ HO_18) (Kd.S_typed (zS_ HO_10)) (by decide) hg); replace BK396 := A0_ (blk_grown (g := gb396) (o := .cells #[.slice A0_0 l0_0.length c0_0, .slice (some ad418) l0_1.length c0_1] 29 (0, 0)) (zK_ BK396) hg (Kd.S_ne HO_10.out BK396.out (by decide))); replace HO410 := A0_ (Kd.R_over' (zR_ HO410) (Kd.S_typed (zS_ HO_10)) (by decide) hg); replace HO414 := A0_ (Kd.R_over' (zR_ HO414) (Kd.S_typed (zS_ HO_10)) (by decide) hg); replace HO417 := A0_ (Kd.R_over' (zR_ HO417) (Kd.S_typed (zS_ HO_10)) (by decide) hg); replace HB := A0_ (hb); have HO425 := A0_ (ho); clear HO_10 HO422 ho hb hg hat))
               go_roundg k1
               case measure => have := HK1.out; omega
               case rel => exact ⟨(y423), (wrap64 (x20_1 + 1)), zt, H', ⟨by have := HK1.out; omega⟩, ⟨zmR HO_9 (fun _ hk => hk.1.1.1.1)⟩, ⟨zmS HO425 (fun _ hk => ⟨hk.1, hk.2.1⟩)⟩, ⟨zmR HO_18 (fun _ hk => hk.1.1.1.1)⟩, ⟨zK_ BK396⟩, ⟨zB_ HB⟩⟩
              rw [if_neg c30] at H
              exact absurd H (by simp)
             rw [if_neg c28] at H
             have c28b0 : ((rd t397 (rd l0_1 (rd t403 x20_1))) == a2) = false := beq_eq_false_iff_ne.mpr c28
             have c28b1 : ((rd t397 (rd l0_1 (rd t403 x20_1))) != a2) = true := bne_iff_ne.mpr c28
             by_cases c42 : x10_1.length < 5864062014805
             ·rw [if_pos c42] at H
              have LMc42 := A0_ c42; clear c42
              obtain ⟨y426, hy426⟩ : ∃ y_ : List (List Int), y_ = (x10_1 ++ [t415]) := ⟨_, rfl⟩
              replace H : (impl_conjAt.l0 k1 l1 a2 l3 t397 y426 t403 (t403.length : Int) (wrap64 (x20_1 + 1)) l0_0 l0_1) = some r := zH hy426 H
              have Ny426 := A0_ hy426; clear hy426; have H' := A0_ H; clear H
              have p406 : 0 ≤ (x20_1 : Int) := zd
              have q406 : x20_1 < (t403.length : Int) := zd
              obtain ⟨ad406, e406, hx406_0⟩ := tI (rR HO_18.out).2.2 x20_1 p406 q406
              cases e406
              replace p406 := eq_true p406; replace q406 := eq_true q406
              have p407 : 0 ≤ (x20_1 : Int) := zd
              have q407 : x20_1 < (l1.length : Int) := zd
              obtain ⟨ad407, A407_0, c407_0, e407, hx407_0, hl407_0, hi407_0⟩ := at_L1 HR1.out x20_1 p407 q407
              cases e407
              try replace hx407_0 := (HB.out.cell (wL w _ hx407_0)).trans hx407_0
              have HR407_0 := A0_ hi407_0; have HC407_0 := A0_ hl407_0; clear hi407_0 hl407_0; replace p407 := eq_true p407; replace q407 := eq_true q407
              go_wp2_with (first | ((with_reducible refine gC (f := 102) rfl ?_); refine zJ (some 29) Try.func102 #[.slice A407_0 (rd_L1 l1 x20_1).length c407_0] ?_; (with_reducible refine (slices_Clone_int_int.calls _ _ (rd_L1 l1 x20_1) t408 _ ?side1 ?side2 A19.out).mono ?_); (case side1 => exact zC HR407_0 HB); (case side2 => exact HC407_0.out); rintro e w43 ⟨v409, rfl, ho0, hb⟩; refine ⟨_, rfl, ?_⟩; replace HO_10 := A0_ (Kd.S_elder' (zS_ HO_10) (Kd.R_base ho0) hb); have HO410 := A0_ (rL (Kd.R_new' (Kd.R_new' ho0 (rX (zR_ HO_9))) (rX (zR_ HO_18))) (bZ (zB_ HB))); replace HO_9 := A0_ (Kd.R_elder' (zR_ HO_9) (Kd.R_base ho0) hb); replace HO_18 := A0_ (Kd.R_elder' (zR_ HO_18) (Kd.R_base ho0) hb); replace BK396 := zK BK396 hb; replace HB := zB HB hb; (try clear hb); (try clear ho0); obtain ⟨Ao44, co44, eo44⟩ := rS HO_9.out; subst eo44; have p411 : 0 ≤ ((rd t403 x20_1) : Int) := zd; have q411 : (rd t403 x20_1) < (t397.length : Int) := zd; obtain ⟨ad411, e411, hx411_0⟩ := tI (rR HO_9.out).2.2 (rd t403 x20_1) p411 q411; cases e411; replace p411 := eq_true p411; replace q411 := eq_true q411) | ((with_reducible refine gC (f := 89) rfl ?_); refine zJ (some 37) Try.func89 #[.slice A3 l3.length c3] ?_; (with_reducible refine (impl_back.calls k1 _ _ l3 t412 _ ?side1 ?side2 A23.out).mono ?_); (case side1 => exact zC HR3 HB); (case side2 => exact HC3.out); rintro e w45 ⟨v413, rfl, ho0, hb⟩; refine ⟨_, rfl, ?_⟩; replace HO_10 := A0_ (Kd.S_elder' (zS_ HO_10) (Kd.R_base ho0) hb); have HO414 := A0_ (rL (Kd.R_new' (Kd.R_new' (Kd.R_new' ho0 (rX (zR_ HO_9))) (rX (zR_ HO_18))) (rX (zR_ HO410))) (bZ (zB_ HB))); replace HO_9 := A0_ (Kd.R_elder' (zR_ HO_9) (Kd.R_base ho0) hb); replace HO_18 := A0_ (Kd.R_elder' (zR_ HO_18) (Kd.R_base ho0) hb); replace HO410 := A0_ (Kd.R_elder' (zR_ HO410) (Kd.R_base ho0) hb); replace BK396 := zK BK396 hb; replace HB := zB HB hb; (try clear hb); (try clear ho0); obtain ⟨Ao46, co46, eo46⟩ := rS HO414.out; subst eo46; obtain ⟨Ao47, co47, eo47⟩ := rS HO410.out; subst eo47) | ((with_reducible refine gC (f := 71) rfl ?_); refine zJ (some 39) Try.func71 #[.slice Ao46 t412.length co46, .slice Ao47 t408.length co47] ?_; (with_reducible refine (impl_mul.calls k1 _ _ t412 _ _ t408 t415 _ ?side1 ?side2 ?side3 ?side4 A24.out).mono ?_); (case side1 => exact zD HO414); (case side2 => exact (rR HO414.out).2.1); (case side3 => exact zD HO410); (case side4 => exact (rR HO410.out).2.1); rintro e w48 ⟨v416, rfl, ho0, hb⟩; refine ⟨_, rfl, ?_⟩; replace HO_10 := A0_ (Kd.S_elder' (zS_ HO_10) (Kd.R_base ho0) hb); have HO417 := A0_ (rL (Kd.R_new' (Kd.R_new' (Kd.R_new' (Kd.R_new' ho0 (rX (zR_ HO_9))) (rX (zR_ HO_18))) (rX (zR_ HO410))) (rX (zR_ HO414))) (bZ (zB_ HB))); replace HO_9 := A0_ (Kd.R_elder' (zR_ HO_9) (Kd.R_base ho0) hb); replace HO_18 := A0_ (Kd.R_elder' (zR_ HO_18) (Kd.R_base ho0) hb); replace HO410 := A0_ (Kd.R_elder' (zR_ HO410) (Kd.R_base ho0) hb); replace HO414 := A0_ (Kd.R_elder' (zR_ HO414) (Kd.R_base ho0) hb); replace BK396 := zK BK396 hb; replace HB := zB HB hb; (try clear hb); (try clear ho0); have hcz49_0 := zc0 BK396; have hcz49_1 := zc1 BK396; have hfz49_0 := kF BK396.out 0; have hfz49_1 := kF BK396.out 1; have p418 : 0 ≤ ((rd t403 x20_1) : Int) := zd; have q418 : (rd t403 x20_1) < (l0_1.length : Int) := zd; obtain ⟨ad418, e418, hx418_0⟩ := tI HR0_1.out (rd t403 x20_1) p418 q418; cases e418; try replace hx418_0 := (HB.out.cell (wL w _ hx418_0)).trans hx418_0; replace p418 := eq_true p418; replace q418 := eq_true q418; have p419 : 0 ≤ ((rd l0_1 (rd t403 x20_1)) : Int) := zd; have q419 : (rd l0_1 (rd t403 x20_1)) < (t397.length : Int) := zd; obtain ⟨ad419, e419, hx419_0⟩ := tI (rR HO_9.out).2.2 (rd l0_1 (rd t403 x20_1)) p419 q419; obtain rfl : ad411 = ad419 := (by injection e419); replace p419 := eq_true p419; replace q419 := eq_true q419; obtain ⟨Ao51, co51, eo51⟩ := rS HO417.out; subst eo51) | ((with_reducible refine gB (b := .append) (xs := #[.tmp 53, .tmp 55]) rfl ?_); at_builtin; refine Kd.S_append (Kd.slice 3 (Kd.int .i64)) (w0 := w) w.heap.size rfl (.tmp 53) (.tmp 55) 25 22 (.slice none 0 0) 24 rfl Try.underlying25 info22 rfl (by decide) (by omega) u10 x10_1 t415 [.slice Ao51 t415.length co51] (fun k_ => some k_ ≠ (.slice (some ad411) t397.length co44 : Value).ownBlock ∧ some k_ ≠ (.slice (some ad406) t403.length co14 : Value).ownBlock ∧ some k_ ≠ (.slice Ao47 t408.length co47 : Value).ownBlock ∧ some k_ ≠ (.slice Ao46 t412.length co46 : Value).ownBlock) (fun k_ => some k_ = (.slice Ao51 t415.length co51 : Value).ownBlock) rfl rfl ?aP (fun k_ hk_ => ((rM (ok' := fun k_ => ((fun k_ => some k_ ≠ (.slice (some ad411) t397.length co44 : Value).ownBlock ∧ some k_ ≠ (.slice (some ad406) t403.length co14 : Value).ownBlock ∧ some k_ ≠ (.slice Ao47 t408.length co47 : Value).ownBlock ∧ some k_ ≠ (.slice Ao46 t412.length co46 : Value).ownBlock)) k_ ∧ some k_ ≠ (u10 : Value).ownBlock) (Kd.R_apart' (HO417.out) (Kd.S_typed HO_10.out) (by decide)) (fun k_ hk => ⟨⟨hk.1.1.1.1.2, ⟨hk.1.1.1.2, ⟨hk.1.1.2, hk.1.2⟩⟩⟩, hk.2⟩))).1 k_ hk_.symm) ?aF ?aO ?aB ?aS ?aL ?_; (case aP => exact Kd.M_row (rM (Kd.R_tight rfl (rM (ok' := fun k_ => ((fun k_ => some k_ ≠ (.slice (some ad411) t397.length co44 : Value).ownBlock ∧ some k_ ≠ (.slice (some ad406) t403.length co14 : Value).ownBlock ∧ some k_ ≠ (.slice Ao47 t408.length co47 : Value).ownBlock ∧ some k_ ≠ (.slice Ao46 t412.length co46 : Value).ownBlock)) k_ ∧ some k_ ≠ (u10 : Value).ownBlock) (Kd.R_apart' (HO417.out) (Kd.S_typed HO_10.out) (by decide)) (fun k_ hk => ⟨⟨hk.1.1.1.1.2, ⟨hk.1.1.1.2, ⟨hk.1.1.2, hk.1.2⟩⟩⟩, hk.2⟩))) (fun _ h_ => h_))); (case aB => exact (zB_ HB)); (case aF => exact (fun k_ hk => ⟨Kd.fresh' (rX (zR_ HO_9)) k_ hk, Kd.fresh' (rX (zR_ HO_18)) k_ hk, Kd.fresh' (rX (zR_ HO410)) k_ hk, Kd.fresh' (rX (zR_ HO414)) k_ hk⟩)); (case aO => exact (zmS HO_10 (fun k_ hk => ⟨⟨hk.1.1.1.1, ⟨hk.1.1.1.2, ⟨hk.1.1.2, hk.1.2⟩⟩⟩, fun e_ => hk.2 e_⟩))); (case aS => exact (bZ (zB_ HB))); (case aL => have := LMc42.out; omega); intro v427 w50 ho hb hg hat; rw [← Ny426.out] at ho; replace HO_9 := A0_ (Kd.R_over' (zR_ HO_9) (Kd.S_typed (zS_ HO_10)) (by decide) hg); replace HO_18 := A0_ (Kd.R_over' (zR_ HO_18) (Kd.S_typed (zS_ HO_10)) (by decide) hg); replace BK396 := A0_ (blk_grown (g := gb396) (o := .cells #[.slice A0_0 l0_0.length c0_0, .slice (some ad418) l0_1.length c0_1] 29 (0, 0)) (zK_ BK396) hg (Kd.S_ne HO_10.out BK396.out (by decide))); replace HO410 := A0_ (Kd.R_over' (zR_ HO410) (Kd.S_typed (zS_ HO_10)) (by decide) hg); replace HO414 := A0_ (Kd.R_over' (zR_ HO414) (Kd.S_typed (zS_ HO_10)) (by decide) hg); replace HB := A0_ (hb); have HO428 := A0_ (ho); clear HO_10 HO417 ho hb hg hat))
              go_roundg k1
              case measure => have := HK1.out; omega
              case rel => exact ⟨(y426), (wrap64 (x20_1 + 1)), zt, H', ⟨by have := HK1.out; omega⟩, ⟨zmR HO_9 (fun _ hk => hk.1.1.1)⟩, ⟨zmS HO428 (fun _ hk => ⟨hk.1, hk.2.1⟩)⟩, ⟨zmR HO_18 (fun _ hk => hk.1.1.1)⟩, ⟨zK_ BK396⟩, ⟨zB_ HB⟩⟩
             rw [if_neg c42] at H
             exact absurd H (by simp)
            rw [if_neg c27] at H
            exact absurd H (by simp)
           rw [if_neg c26] at H
           exact absurd H (by simp)
          rw [if_neg c25] at H
          exact absurd H (by simp)
         rw [if_neg c22] at H
         have c22b0 : ((rd t397 (rd t403 x20_1)) == a2) = false := beq_eq_false_iff_ne.mpr c22
         have c22b1 : ((rd t397 (rd t403 x20_1)) != a2) = true := bne_iff_ne.mpr c22
         by_cases c52 : (rd t403 x20_1) < (l0_1.length : Int)
         ·rw [if_pos c52] at H
          have c52b0 := dT c52; clear c52
          by_cases c53 : 0 ≤ (rd l0_1 (rd t403 x20_1))
          ·rw [if_pos c53] at H
           have c53b0 := dT c53; clear c53
           by_cases c54 : (rd l0_1 (rd t403 x20_1)) < (t397.length : Int)
           ·rw [if_pos c54] at H
            have c54b0 := dT c54; clear c54
            by_cases c55 : (rd t397 (rd l0_1 (rd t403 x20_1))) = a2
            ·rw [if_pos c55] at H
             have c55b0 : ((rd t397 (rd l0_1 (rd t403 x20_1))) == a2) = true := beq_iff_eq.mpr c55
             have c55b1 : ((rd t397 (rd l0_1 (rd t403 x20_1))) != a2) = false := bne_eq_false_iff_eq.mpr c55
             clear c55; obtain ⟨t431, A56, H⟩ := zbind H
             by_cases c57 : x10_1.length < 5864062014805
             ·rw [if_pos c57] at H
              have LMc57 := A0_ c57; clear c57
              obtain ⟨y434, hy434⟩ : ∃ y_ : List (List Int), y_ = (x10_1 ++ [t431]) := ⟨_, rfl⟩
              replace H : (impl_conjAt.l0 k1 l1 a2 l3 t397 y434 t403 (t403.length : Int) (wrap64 (x20_1 + 1)) l0_0 l0_1) = some r := zH hy434 H
              have Ny434 := A0_ hy434; clear hy434; have H' := A0_ H; clear H
              have p406 : 0 ≤ (x20_1 : Int) := zd
              have q406 : x20_1 < (t403.length : Int) := zd
              obtain ⟨ad406, e406, hx406_0⟩ := tI (rR HO_18.out).2.2 x20_1 p406 q406
              cases e406
              replace p406 := eq_true p406; replace q406 := eq_true q406
              have p407 : 0 ≤ (x20_1 : Int) := zd
              have q407 : x20_1 < (l1.length : Int) := zd
              obtain ⟨ad407, A407_0, c407_0, e407, hx407_0, hl407_0, hi407_0⟩ := at_L1 HR1.out x20_1 p407 q407
              cases e407
              try replace hx407_0 := (HB.out.cell (wL w _ hx407_0)).trans hx407_0
              have HR407_0 := A0_ hi407_0; have HC407_0 := A0_ hl407_0; clear hi407_0 hl407_0; replace p407 := eq_true p407; replace q407 := eq_true q407
              go_wp2_with (first | ((with_reducible refine gC (f := 102) rfl ?_); refine zJ (some 29) Try.func102 #[.slice A407_0 (rd_L1 l1 x20_1).length c407_0] ?_; (with_reducible refine (slices_Clone_int_int.calls _ _ (rd_L1 l1 x20_1) t408 _ ?side1 ?side2 A19.out).mono ?_); (case side1 => exact zC HR407_0 HB); (case side2 => exact HC407_0.out); rintro e w58 ⟨v409, rfl, ho0, hb⟩; refine ⟨_, rfl, ?_⟩; replace HO_10 := A0_ (Kd.S_elder' (zS_ HO_10) (Kd.R_base ho0) hb); have HO410 := A0_ (rL (Kd.R_new' (Kd.R_new' ho0 (rX (zR_ HO_9))) (rX (zR_ HO_18))) (bZ (zB_ HB))); replace HO_9 := A0_ (Kd.R_elder' (zR_ HO_9) (Kd.R_base ho0) hb); replace HO_18 := A0_ (Kd.R_elder' (zR_ HO_18) (Kd.R_base ho0) hb); replace BK396 := zK BK396 hb; replace HB := zB HB hb; (try clear hb); (try clear ho0); obtain ⟨Ao59, co59, eo59⟩ := rS HO_9.out; subst eo59; have p411 : 0 ≤ ((rd t403 x20_1) : Int) := zd; have q411 : (rd t403 x20_1) < (t397.length : Int) := zd; obtain ⟨ad411, e411, hx411_0⟩ := tI (rR HO_9.out).2.2 (rd t403 x20_1) p411 q411; cases e411; replace p411 := eq_true p411; replace q411 := eq_true q411; have hcz60_0 := zc0 BK396; have hcz60_1 := zc1 BK396; have hfz60_0 := kF BK396.out 0; have hfz60_1 := kF BK396.out 1; have p429 : 0 ≤ ((rd t403 x20_1) : Int) := zd; have q429 : (rd t403 x20_1) < (l0_1.length : Int) := zd; obtain ⟨ad429, e429, hx429_0⟩ := tI HR0_1.out (rd t403 x20_1) p429 q429; cases e429; try replace hx429_0 := (HB.out.cell (wL w _ hx429_0)).trans hx429_0; replace p429 := eq_true p429; replace q429 := eq_true q429; have p430 : 0 ≤ ((rd l0_1 (rd t403 x20_1)) : Int) := zd; have q430 : (rd l0_1 (rd t403 x20_1)) < (t397.length : Int) := zd; obtain ⟨ad430, e430, hx430_0⟩ := tI (rR HO_9.out).2.2 (rd l0_1 (rd t403 x20_1)) p430 q430; obtain rfl : ad411 = ad430 := (by injection e430); replace p430 := eq_true p430; replace q430 := eq_true q430; obtain ⟨Ao61, co61, eo61⟩ := rS HO410.out; subst eo61) | ((with_reducible refine gC (f := 71) rfl ?_); refine zJ (some 52) Try.func71 #[.slice Ao61 t408.length co61, .slice A3 l3.length c3] ?_; (with_reducible refine (impl_mul.calls k1 _ _ t408 _ _ l3 t431 _ ?side1 ?side2 ?side3 ?side4 A56.out).mono ?_); (case side1 => exact zD HO410); (case side2 => exact (rR HO410.out).2.1); (case side3 => exact zC HR3 HB); (case side4 => exact HC3.out); rintro e w62 ⟨v432, rfl, ho0, hb⟩; refine ⟨_, rfl, ?_⟩; replace HO_10 := A0_ (Kd.S_elder' (zS_ HO_10) (Kd.R_base ho0) hb); have HO433 := A0_ (rL (Kd.R_new' (Kd.R_new' (Kd.R_new' ho0 (rX (zR_ HO_9))) (rX (zR_ HO_18))) (rX (zR_ HO410))) (bZ (zB_ HB))); replace HO_9 := A0_ (Kd.R_elder' (zR_ HO_9) (Kd.R_base ho0) hb); replace HO_18 := A0_ (Kd.R_elder' (zR_ HO_18) (Kd.R_base ho0) hb); replace HO410 := A0_ (Kd.R_elder' (zR_ HO410) (Kd.R_base ho0) hb); replace BK396 := zK BK396 hb; replace HB := zB HB hb; (try clear hb); (try clear ho0); obtain ⟨Ao64, co64, eo64⟩ := rS HO433.out; subst eo64) | ((with_reducible refine gB (b := .append) (xs := #[.tmp 53, .tmp 55]) rfl ?_); at_builtin; refine Kd.S_append (Kd.slice 3 (Kd.int .i64)) (w0 := w) w.heap.size rfl (.tmp 53) (.tmp 55) 25 22 (.slice none 0 0) 24 rfl Try.underlying25 info22 rfl (by decide) (by omega) u10 x10_1 t431 [.slice Ao64 t431.length co64] (fun k_ => some k_ ≠ (.slice (some ad411) t397.length co59 : Value).ownBlock ∧ some k_ ≠ (.slice (some ad406) t403.length co14 : Value).ownBlock ∧ some k_ ≠ (.slice Ao61 t408.length co61 : Value).ownBlock) (fun k_ => some k_ = (.slice Ao64 t431.length co64 : Value).ownBlock) rfl rfl ?aP (fun k_ hk_ => ((rM (ok' := fun k_ => ((fun k_ => some k_ ≠ (.slice (some ad411) t397.length co59 : Value).ownBlock ∧ some k_ ≠ (.slice (some ad406) t403.length co14 : Value).ownBlock ∧ some k_ ≠ (.slice Ao61 t408.length co61 : Value).ownBlock)) k_ ∧ some k_ ≠ (u10 : Value).ownBlock) (Kd.R_apart' (HO433.out) (Kd.S_typed HO_10.out) (by decide)) (fun k_ hk => ⟨⟨hk.1.1.1.2, ⟨hk.1.1.2, hk.1.2⟩⟩, hk.2⟩))).1 k_ hk_.symm) ?aF ?aO ?aB ?aS ?aL ?_; (case aP => exact Kd.M_row (rM (Kd.R_tight rfl (rM (ok' := fun k_ => ((fun k_ => some k_ ≠ (.slice (some ad411) t397.length co59 : Value).ownBlock ∧ some k_ ≠ (.slice (some ad406) t403.length co14 : Value).ownBlock ∧ some k_ ≠ (.slice Ao61 t408.length co61 : Value).ownBlock)) k_ ∧ some k_ ≠ (u10 : Value).ownBlock) (Kd.R_apart' (HO433.out) (Kd.S_typed HO_10.out) (by decide)) (fun k_ hk => ⟨⟨hk.1.1.1.2, ⟨hk.1.1.2, hk.1.2⟩⟩, hk.2⟩))) (fun _ h_ => h_))); (case aB => exact (zB_ HB)); (case aF => exact (fun k_ hk => ⟨Kd.fresh' (rX (zR_ HO_9)) k_ hk, Kd.fresh' (rX (zR_ HO_18)) k_ hk, Kd.fresh' (rX (zR_ HO410)) k_ hk⟩)); (case aO => exact (zmS HO_10 (fun k_ hk => ⟨⟨hk.1.1.1, ⟨hk.1.1.2, hk.1.2⟩⟩, fun e_ => hk.2 e_⟩))); (case aS => exact (bZ (zB_ HB))); (case aL => have := LMc57.out; omega); intro v435 w63 ho hb hg hat; rw [← Ny434.out] at ho; replace HO_9 := A0_ (Kd.R_over' (zR_ HO_9) (Kd.S_typed (zS_ HO_10)) (by decide) hg); replace HO_18 := A0_ (Kd.R_over' (zR_ HO_18) (Kd.S_typed (zS_ HO_10)) (by decide) hg); replace BK396 := A0_ (blk_grown (g := gb396) (o := .cells #[.slice A0_0 l0_0.length c0_0, .slice (some ad429) l0_1.length c0_1] 29 (0, 0)) (zK_ BK396) hg (Kd.S_ne HO_10.out BK396.out (by decide))); replace HO410 := A0_ (Kd.R_over' (zR_ HO410) (Kd.S_typed (zS_ HO_10)) (by decide) hg); replace HB := A0_ (hb); have HO436 := A0_ (ho); clear HO_10 HO433 ho hb hg hat))
              go_roundg k1
              case measure => have := HK1.out; omega
              case rel => exact ⟨(y434), (wrap64 (x20_1 + 1)), zt, H', ⟨by have := HK1.out; omega⟩, ⟨zmR HO_9 (fun _ hk => hk.1.1)⟩, ⟨zmS HO436 (fun _ hk => ⟨hk.1, hk.2.1⟩)⟩, ⟨zmR HO_18 (fun _ hk => hk.1.1)⟩, ⟨zK_ BK396⟩, ⟨zB_ HB⟩⟩
             rw [if_neg c57] at H
             exact absurd H (by simp)
            rw [if_neg c55] at H
            have c55b0 : ((rd t397 (rd l0_1 (rd t403 x20_1))) == a2) = false := beq_eq_false_iff_ne.mpr c55
            have c55b1 : ((rd t397 (rd l0_1 (rd t403 x20_1))) != a2) = true := bne_iff_ne.mpr c55
            by_cases c65 : x10_1.length < 5864062014805
            ·rw [if_pos c65] at H
             have LMc65 := A0_ c65; clear c65
             obtain ⟨y437, hy437⟩ : ∃ y_ : List (List Int), y_ = (x10_1 ++ [t408]) := ⟨_, rfl⟩
             replace H : (impl_conjAt.l0 k1 l1 a2 l3 t397 y437 t403 (t403.length : Int) (wrap64 (x20_1 + 1)) l0_0 l0_1) = some r := zH hy437 H
             have Ny437 := A0_ hy437; clear hy437; have H' := A0_ H; clear H
             have p406 : 0 ≤ (x20_1 : Int) := zd
             have q406 : x20_1 < (t403.length : Int) := zd
             obtain ⟨ad406, e406, hx406_0⟩ := tI (rR HO_18.out).2.2 x20_1 p406 q406
             cases e406
             replace p406 := eq_true p406; replace q406 := eq_true q406
             have p407 : 0 ≤ (x20_1 : Int) := zd
             have q407 : x20_1 < (l1.length : Int) := zd
             obtain ⟨ad407, A407_0, c407_0, e407, hx407_0, hl407_0, hi407_0⟩ := at_L1 HR1.out x20_1 p407 q407
             cases e407
             try replace hx407_0 := (HB.out.cell (wL w _ hx407_0)).trans hx407_0
             have HR407_0 := A0_ hi407_0; have HC407_0 := A0_ hl407_0; clear hi407_0 hl407_0; replace p407 := eq_true p407; replace q407 := eq_true q407
             go_wp2_with (first | ((with_reducible refine gC (f := 102) rfl ?_); refine zJ (some 29) Try.func102 #[.slice A407_0 (rd_L1 l1 x20_1).length c407_0] ?_; (with_reducible refine (slices_Clone_int_int.calls _ _ (rd_L1 l1 x20_1) t408 _ ?side1 ?side2 A19.out).mono ?_); (case side1 => exact zC HR407_0 HB); (case side2 => exact HC407_0.out); rintro e w66 ⟨v409, rfl, ho0, hb⟩; refine ⟨_, rfl, ?_⟩; replace HO_10 := A0_ (Kd.S_elder' (zS_ HO_10) (Kd.R_base ho0) hb); have HO410 := A0_ (rL (Kd.R_new' (Kd.R_new' ho0 (rX (zR_ HO_9))) (rX (zR_ HO_18))) (bZ (zB_ HB))); replace HO_9 := A0_ (Kd.R_elder' (zR_ HO_9) (Kd.R_base ho0) hb); replace HO_18 := A0_ (Kd.R_elder' (zR_ HO_18) (Kd.R_base ho0) hb); replace BK396 := zK BK396 hb; replace HB := zB HB hb; (try clear hb); (try clear ho0); obtain ⟨Ao67, co67, eo67⟩ := rS HO_9.out; subst eo67; have p411 : 0 ≤ ((rd t403 x20_1) : Int) := zd; have q411 : (rd t403 x20_1) < (t397.length : Int) := zd; obtain ⟨ad411, e411, hx411_0⟩ := tI (rR HO_9.out).2.2 (rd t403 x20_1) p411 q411; cases e411; replace p411 := eq_true p411; replace q411 := eq_true q411; have hcz68_0 := zc0 BK396; have hcz68_1 := zc1 BK396; have hfz68_0 := kF BK396.out 0; have hfz68_1 := kF BK396.out 1; have p429 : 0 ≤ ((rd t403 x20_1) : Int) := zd; have q429 : (rd t403 x20_1) < (l0_1.length : Int) := zd; obtain ⟨ad429, e429, hx429_0⟩ := tI HR0_1.out (rd t403 x20_1) p429 q429; cases e429; try replace hx429_0 := (HB.out.cell (wL w _ hx429_0)).trans hx429_0; replace p429 := eq_true p429; replace q429 := eq_true q429; have p430 : 0 ≤ ((rd l0_1 (rd t403 x20_1)) : Int) := zd; have q430 : (rd l0_1 (rd t403 x20_1)) < (t397.length : Int) := zd; obtain ⟨ad430, e430, hx430_0⟩ := tI (rR HO_9.out).2.2 (rd l0_1 (rd t403 x20_1)) p430 q430; obtain rfl : ad411 = ad430 := (by injection e430); replace p430 := eq_true p430; replace q430 := eq_true q430; obtain ⟨Ao70, co70, eo70⟩ := rS HO410.out; subst eo70) | ((with_reducible refine gB (b := .append) (xs := #[.tmp 53, .tmp 55]) rfl ?_); at_builtin; refine Kd.S_append (Kd.slice 3 (Kd.int .i64)) (w0 := w) w.heap.size rfl (.tmp 53) (.tmp 55) 25 22 (.slice none 0 0) 24 rfl Try.underlying25 info22 rfl (by decide) (by omega) u10 x10_1 t408 [.slice Ao70 t408.length co70] (fun k_ => some k_ ≠ (.slice (some ad411) t397.length co67 : Value).ownBlock ∧ some k_ ≠ (.slice (some ad406) t403.length co14 : Value).ownBlock) (fun k_ => some k_ = (.slice Ao70 t408.length co70 : Value).ownBlock) rfl rfl ?aP (fun k_ hk_ => ((rM (ok' := fun k_ => ((fun k_ => some k_ ≠ (.slice (some ad411) t397.length co67 : Value).ownBlock ∧ some k_ ≠ (.slice (some ad406) t403.length co14 : Value).ownBlock)) k_ ∧ some k_ ≠ (u10 : Value).ownBlock) (Kd.R_apart' (HO410.out) (Kd.S_typed HO_10.out) (by decide)) (fun k_ hk => ⟨⟨hk.1.1.2, hk.1.2⟩, hk.2⟩))).1 k_ hk_.symm) ?aF ?aO ?aB ?aS ?aL ?_; (case aP => exact Kd.M_row (rM (Kd.R_tight rfl (rM (ok' := fun k_ => ((fun k_ => some k_ ≠ (.slice (some ad411) t397.length co67 : Value).ownBlock ∧ some k_ ≠ (.slice (some ad406) t403.length co14 : Value).ownBlock)) k_ ∧ some k_ ≠ (u10 : Value).ownBlock) (Kd.R_apart' (HO410.out) (Kd.S_typed HO_10.out) (by decide)) (fun k_ hk => ⟨⟨hk.1.1.2, hk.1.2⟩, hk.2⟩))) (fun _ h_ => h_))); (case aB => exact (zB_ HB)); (case aF => exact (fun k_ hk => ⟨Kd.fresh' (rX (zR_ HO_9)) k_ hk, Kd.fresh' (rX (zR_ HO_18)) k_ hk⟩)); (case aO => exact (zmS HO_10 (fun k_ hk => ⟨⟨hk.1.1, hk.1.2⟩, fun e_ => hk.2 e_⟩))); (case aS => exact (bZ (zB_ HB))); (case aL => have := LMc65.out; omega); intro v438 w69 ho hb hg hat; rw [← Ny437.out] at ho; replace HO_9 := A0_ (Kd.R_over' (zR_ HO_9) (Kd.S_typed (zS_ HO_10)) (by decide) hg); replace HO_18 := A0_ (Kd.R_over' (zR_ HO_18) (Kd.S_typed (zS_ HO_10)) (by decide) hg); replace BK396 := A0_ (blk_grown (g := gb396) (o := .cells #[.slice A0_0 l0_0.length c0_0, .slice (some ad429) l0_1.length c0_1] 29 (0, 0)) (zK_ BK396) hg (Kd.S_ne HO_10.out BK396.out (by decide))); replace HB := A0_ (hb); have HO439 := A0_ (ho); clear HO_10 HO410 ho hb hg hat))
             go_roundg k1
             case measure => have := HK1.out; omega
             case rel => exact ⟨(y437), (wrap64 (x20_1 + 1)), zt, H', ⟨by have := HK1.out; omega⟩, ⟨zmR HO_9 (fun _ hk => hk.1)⟩, ⟨zS_ HO439⟩, ⟨zmR HO_18 (fun _ hk => hk.1)⟩, ⟨zK_ BK396⟩, ⟨zB_ HB⟩⟩
            rw [if_neg c65] at H
            exact absurd H (by simp)
           rw [if_neg c54] at H
           exact absurd H (by simp)
          rw [if_neg c53] at H
          exact absurd H (by simp)
         rw [if_neg c52] at H
         exact absurd H (by simp)
        rw [if_neg c21] at H
        exact absurd H (by simp)
       rw [if_neg c20] at H
       exact absurd H (by simp)
      rw [if_neg c18] at H
      exact absurd H (by simp)
     rw [if_neg c17] at H
     exact absurd H (by simp)
    rw [if_neg c16] at H
    exact absurd H (by simp)
   rw [if_neg c15] at H; have c15b0 := dF c15; clear c15; obtain rfl := sI H
   go_wp2
   go_ret
   exact ⟨_, by first | rfl | (simp [*] <;> rfl), zmS HO_10 (fun _ hk => trivial), zB_ HB⟩

/-! ### impl_CoverConj: function 48 -/
def impl_CoverConj.j0 : Nat → List (List Int) → Int → List Int → Bool → List Int → List Int → Option ((List (List Int)) × Bool)
  | 0, _, _, _, _, _, _ => none
  | k + 1, x2, x3, x4, x38, x441000, x441001 => if x38 = true then (some (([] : List (List Int)), false)) else ((impl_vertexOf.f k x441000 x441001).bind fun t443 => (if 0 ≤ x3 then (if x3 < (t443.length : Int) then ((impl_conjAt.f k x441000 x441001 x2 (rd t443 x3) x4).bind fun t447 => (some (t447, true))) else (none)) else (none)))
def impl_CoverConj.f (k : Nat) (l0_0 : List Int) (l0_1 : List Int) (a1 : Int) (l2 : List (List Int)) (a3 : Int) (l4 : List Int) : Option ((List (List Int)) × Bool) := (impl_VoltageValid.f k l0_0 l0_1 a1 l2).bind fun t441 => (if t441 = true then (if a3 < 0 then (impl_CoverConj.j0 k l2 a3 l4 true l0_0 l0_1) else (if a3 ≥ (l0_0.length : Int) then (impl_CoverConj.j0 k l2 a3 l4 true l0_0 l0_1) else ((impl_PermValid.f l4).bind fun t442 => (if t442 = true then (impl_CoverConj.j0 k l2 a3 l4 ((l4.length : Int) != a1) l0_0 l0_1) else (impl_CoverConj.j0 k l2 a3 l4 true l0_0 l0_1))))) else (impl_CoverConj.j0 k l2 a3 l4 true l0_0 l0_1))
def impl_CoverConj.T3 : Bool × List (List Nat × List Nat) := (true, [([], []), ([], []), ([], []), ([2], [2]), ([], []), ([3, 4], [3, 4]), ([5], [5]), ([], []), ([0, 1, 6, 7, 3], [0, 1, 6, 7]), ([8, 8, 0, 1, 2, 3, 4, 5, 6, 7, 8], [8]), ([9, 0, 1, 2, 3, 4, 5, 6, 7, 8, 9], [])])
def impl_CoverConj.B3 : List Nat := [0, 0, 0, 4, 0, 28, 60, 0, 255, 511, 1023]
theorem impl_CoverConj.tab3 : rtab .any (opsOf Try.f48 3) = impl_CoverConj.T3 := by kernel_rfl
theorem impl_CoverConj.bits3 : waitsOk impl_CoverConj.T3.2 impl_CoverConj.B3 = true := by kernel_rfl
set_option maxHeartbeats 8000000 in
set_option maxRecDepth 100000 in
theorem impl_CoverConj.calls (k : Nat) (A0_0 : Option Addr) (c0_0 : Nat) (l0_0 : List Int) (A0_1 : Option Addr) (c0_1 : Nat) (l0_1 : List Int) (a1 : Int) (A2 : Option Addr) (c2 : Nat) (l2 : List (List Int)) (a3 : Int) (A4 : Option Addr) (c4 : Nat) (l4 : List Int) (r1 : List (List Int)) (r2 : Bool) (w : World) (hr0_0 : Kd.C (Kd.int .i64) w A0_0 l0_0.length l0_0) (hc0_0 : l0_0.length ≤ c0_0) (hr0_1 : Kd.C (Kd.int .i64) w A0_1 l0_1.length l0_1) (hc0_1 : l0_1.length ≤ c0_1) (hr2 : Kd.C (Kd.slice 3 (Kd.int .i64)) w A2 l2.length l2) (hc2 : l2.length ≤ c2) (hr4 : Kd.C (Kd.int .i64) w A4 l4.length l4) (hc4 : l4.length ≤ c4) (h : impl_CoverConj.f k l0_0 l0_1 a1 l2 a3 l4 = some (r1, r2)) :
    Calls Try.prog 48 #[.agg #[.slice A0_0 l0_0.length c0_0, .slice A0_1 l0_1.length c0_1], .int .i64 a1, .slice A2 l2.length c2, .int .i64 a3, .slice A4 l4.length c4] w fun e w' => ∃ v0_ : Value, e = .returned (.tuple #[v0_, .bool r2]) ∧ Kd.S (Kd.slice 3 (Kd.int .i64)) 22 w' w.heap.size (fun _ => True) v0_ r1 ∧ Below w.heap.size w w' := by
 have hu29 := Try.underlying29; have HR0_0 := A0_ hr0_0; have HC0_0 := A0_ hc0_0; clear hr0_0 hc0_0; have HR0_1 := A0_ hr0_1; have HC0_1 := A0_ hc0_1; clear hr0_1 hc0_1; have HR2 := A0_ hr2; have HC2 := A0_ hc2; clear hr2 hc2; have HR4 := A0_ hr4; have HC4 := A0_ hc4; clear hr4 hc4
 have HB := A0_ (Below.refl w.heap.size w)
 have H : ((impl_VoltageValid.f k l0_0 l0_1 a1 l2).bind fun t441 => (if t441 = true then (if a3 < 0 then (impl_CoverConj.j0 k l2 a3 l4 true l0_0 l0_1) else (if a3 ≥ (l0_0.length : Int) then (impl_CoverConj.j0 k l2 a3 l4 true l0_0 l0_1) else ((impl_PermValid.f l4).bind fun t442 => (if t442 = true then (impl_CoverConj.j0 k l2 a3 l4 ((l4.length : Int) != a1) l0_0 l0_1) else (impl_CoverConj.j0 k l2 a3 l4 true l0_0 l0_1))))) else (impl_CoverConj.j0 k l2 a3 l4 true l0_0 l0_1))) = some (r1, r2) := h
 clear h; have HC6 := A0_ H; clear H
 go_enter Try.func48, Try.ntmps48
 go_upto_region 1 with (first | ((with_reducible refine gD (N := 5) rfl ?_); refine zX (N := 5) (cs := #[.slice A0_0 l0_0.length c0_0, .slice A0_1 l0_1.length c0_1]) (t := 29) ?_; intro gb440 hg w7 hbox hb; have BK440 := A0_ (hbox); have GW440 := zG hg HB; have GE440 := zG hg HB; replace HB := zB HB hb; clear hb hbox hg))
 (try simp only [Act.put, List.setIfInBounds_toArray, List.set_cons_zero, List.set_cons_succ])
 go_cut [38] (fun v38 wc => ∃ (kq : Nat) (x38_5 : Bool), v38 = .bool x38_5 ∧ Aside0 (impl_CoverConj.j0 kq l2 a3 l4 x38_5 l0_0 l0_1 = some (r1, r2)) ∧ Aside0 (kq ≤ k) ∧ Aside0 (wc.heap[gb440]? = some (.cells #[(.slice A0_0 l0_0.length c0_0), (.slice A0_1 l0_1.length c0_1)] 29 (0, 0))) ∧ Aside0 (Below w.heap.size w wc))
 case first =>
  have H := HC6.out; clear HC6; obtain ⟨t441, A8, H⟩ := zbind H
  by_cases c9 : t441 = true
  ·subst c9
   have H1 : (if a3 < 0 then (impl_CoverConj.j0 k l2 a3 l4 true l0_0 l0_1) else (if a3 ≥ (l0_0.length : Int) then (impl_CoverConj.j0 k l2 a3 l4 true l0_0 l0_1) else ((impl_PermValid.f l4).bind fun t442 => (if t442 = true then (impl_CoverConj.j0 k l2 a3 l4 ((l4.length : Int) != a1) l0_0 l0_1) else (impl_CoverConj.j0 k l2 a3 l4 true l0_0 l0_1))))) = some (r1, r2) := by rw [if_pos rfl] at H; exact H
   clear H; have H := H1; clear H1
   by_cases c10 : a3 < 0
   ·rw [if_pos c10] at H
    have c10b0 := dT c10; clear c10
    (first | rw [c10b0] | (simp only [i64_w, i32_w]; rw [c10b0]) | skip)
    have H' := A0_ H; clear H; have hcz11_0 := zc0 BK440; have hcz11_1 := zc1 BK440; have hfz11_0 := kF BK440.out 0; have hfz11_1 := kF BK440.out 1
    go_wp2_with (first | ((with_reducible refine gC (f := 20) rfl ?_); refine zJ (some 15) Try.func20 #[.agg #[.slice A0_0 l0_0.length c0_0, .slice A0_1 l0_1.length c0_1], .int .i64 a1, .slice A2 l2.length c2] ?_; (with_reducible refine (impl_VoltageValid.calls k _ _ l0_0 _ _ l0_1 a1 _ _ l2 true _ ?side1 ?side2 ?side3 ?side4 ?side5 ?side6 A8.out).mono ?_); (case side1 => exact zC HR0_0 HB); (case side2 => exact HC0_0.out); (case side3 => exact zC HR0_1 HB); (case side4 => exact HC0_1.out); (case side5 => exact zC HR2 HB); (case side6 => exact HC2.out); rintro e w12 ⟨rfl, hb⟩; refine ⟨_, rfl, ?_⟩; replace BK440 := zK BK440 hb; replace HB := zB HB hb; (try clear hb)))
    go_meet
    case rel => exact ⟨_, (true), zt, H', zo, ⟨zK_ BK440⟩, ⟨zB_ HB⟩⟩
   rw [if_neg c10] at H; have c10b0 := dF c10; clear c10
   (first | rw [c10b0] | (simp only [i64_w, i32_w]; rw [c10b0]) | skip)
   by_cases c13 : a3 ≥ (l0_0.length : Int)
   ·rw [if_pos c13] at H
    have c13b0 : decide ((l0_0.length : Int) ≤ a3) = true := dT c13
    clear c13; have H' := A0_ H; clear H; have hcz14_0 := zc0 BK440; have hcz14_1 := zc1 BK440; have hfz14_0 := kF BK440.out 0; have hfz14_1 := kF BK440.out 1
    go_wp2_with (first | ((with_reducible refine gC (f := 20) rfl ?_); refine zJ (some 15) Try.func20 #[.agg #[.slice A0_0 l0_0.length c0_0, .slice A0_1 l0_1.length c0_1], .int .i64 a1, .slice A2 l2.length c2] ?_; (with_reducible refine (impl_VoltageValid.calls k _ _ l0_0 _ _ l0_1 a1 _ _ l2 true _ ?side1 ?side2 ?side3 ?side4 ?side5 ?side6 A8.out).mono ?_); (case side1 => exact zC HR0_0 HB); (case side2 => exact HC0_0.out); (case side3 => exact zC HR0_1 HB); (case side4 => exact HC0_1.out); (case side5 => exact zC HR2 HB); (case side6 => exact HC2.out); rintro e w15 ⟨rfl, hb⟩; refine ⟨_, rfl, ?_⟩; replace BK440 := zK BK440 hb; replace HB := zB HB hb; (try clear hb); have hcz16_0 := zc0 BK440; have hcz16_1 := zc1 BK440; have hfz16_0 := kF BK440.out 0; have hfz16_1 := kF BK440.out 1))
    go_meet
    case rel => exact ⟨_, (true), zt, H', zo, ⟨zK_ BK440⟩, ⟨zB_ HB⟩⟩
   rw [if_neg c13] at H
   have c13b0 : decide ((l0_0.length : Int) ≤ a3) = false := dF c13
   clear c13; obtain ⟨t442, A17, H⟩ := zbind H
   by_cases c18 : t442 = true
   ·subst c18
    have H1 : (impl_CoverConj.j0 k l2 a3 l4 ((l4.length : Int) != a1) l0_0 l0_1) = some (r1, r2) := by rw [if_pos rfl] at H; exact H
    clear H; have H := H1; clear H1; have H' := A0_ H; clear H; have hcz19_0 := zc0 BK440; have hcz19_1 := zc1 BK440; have hfz19_0 := kF BK440.out 0; have hfz19_1 := kF BK440.out 1
    go_wp2_with (first | ((with_reducible refine gC (f := 20) rfl ?_); refine zJ (some 15) Try.func20 #[.agg #[.slice A0_0 l0_0.length c0_0, .slice A0_1 l0_1.length c0_1], .int .i64 a1, .slice A2 l2.length c2] ?_; (with_reducible refine (impl_VoltageValid.calls k _ _ l0_0 _ _ l0_1 a1 _ _ l2 true _ ?side1 ?side2 ?side3 ?side4 ?side5 ?side6 A8.out).mono ?_); (case side1 => exact zC HR0_0 HB); (case side2 => exact HC0_0.out); (case side3 => exact zC HR0_1 HB); (case side4 => exact HC0_1.out); (case side5 => exact zC HR2 HB); (case side6 => exact HC2.out); rintro e w20 ⟨rfl, hb⟩; refine ⟨_, rfl, ?_⟩; replace BK440 := zK BK440 hb; replace HB := zB HB hb; (try clear hb); have hcz21_0 := zc0 BK440; have hcz21_1 := zc1 BK440; have hfz21_0 := kF BK440.out 0; have hfz21_1 := kF BK440.out 1) | (go_at_call 60; (with_reducible refine (impl_PermValid.calls _ _ l4 true _ ?side1 ?side2 A17.out).mono ?_); (case side1 => exact zC HR4 HB); (case side2 => exact HC4.out); rintro e w22 ⟨rfl, hb⟩; replace BK440 := zK BK440 hb; replace HB := zB HB hb; (try clear hb)))
    go_meet
    case rel => exact ⟨_, (((l4.length : Int) != a1)), zt, H', zo, ⟨zK_ BK440⟩, ⟨zB_ HB⟩⟩
   replace c18 := Bool.eq_false_iff.mpr c18; subst c18
   have H1 : (impl_CoverConj.j0 k l2 a3 l4 true l0_0 l0_1) = some (r1, r2) := by rw [if_neg (show ¬ (false = true) by decide)] at H; exact H
   clear H; have H := H1; clear H1; have H' := A0_ H; clear H; have hcz23_0 := zc0 BK440; have hcz23_1 := zc1 BK440; have hfz23_0 := kF BK440.out 0; have hfz23_1 := kF BK440.out 1
   go_wp2_with (first | ((with_reducible refine gC (f := 20) rfl ?_); refine zJ (some 15) Try.func20 #[.agg #[.slice A0_0 l0_0.length c0_0, .slice A0_1 l0_1.length c0_1], .int .i64 a1, .slice A2 l2.length c2] ?_; (with_reducible refine (impl_VoltageValid.calls k _ _ l0_0 _ _ l0_1 a1 _ _ l2 true _ ?side1 ?side2 ?side3 ?side4 ?side5 ?side6 A8.out).mono ?_); (case side1 => exact zC HR0_0 HB); (case side2 => exact HC0_0.out); (case side3 => exact zC HR0_1 HB); (case side4 => exact HC0_1.out); (case side5 => exact zC HR2 HB); (case side6 => exact HC2.out); rintro e w24 ⟨rfl, hb⟩; refine ⟨_, rfl, ?_⟩; replace BK440 := zK BK440 hb; replace HB := zB HB hb; (try clear hb); have hcz25_0 := zc0 BK440; have hcz25_1 := zc1 BK440; have hfz25_0 := kF BK440.out 0; have hfz25_1 := kF BK440.out 1) | (go_at_call 60; (with_reducible refine (impl_PermValid.calls _ _ l4 false _ ?side1 ?side2 A17.out).mono ?_); (case side1 => exact zC HR4 HB); (case side2 => exact HC4.out); rintro e w26 ⟨rfl, hb⟩; replace BK440 := zK BK440 hb; replace HB := zB HB hb; (try clear hb)))
   go_meet
   case rel => exact ⟨_, (true), zt, H', zo, ⟨zK_ BK440⟩, ⟨zB_ HB⟩⟩
  replace c9 := Bool.eq_false_iff.mpr c9; subst c9
  have H1 : (impl_CoverConj.j0 k l2 a3 l4 true l0_0 l0_1) = some (r1, r2) := by rw [if_neg (show ¬ (false = true) by decide)] at H; exact H
  clear H; have H := H1; clear H1; have H' := A0_ H; clear H; have hcz27_0 := zc0 BK440; have hcz27_1 := zc1 BK440; have hfz27_0 := kF BK440.out 0; have hfz27_1 := kF BK440.out 1
  go_wp2_with (first | ((with_reducible refine gC (f := 20) rfl ?_); refine zJ (some 15) Try.func20 #[.agg #[.slice A0_0 l0_0.length c0_0, .slice A0_1 l0_1.length c0_1], .int .i64 a1, .slice A2 l2.length c2] ?_; (with_reducible refine (impl_VoltageValid.calls k _ _ l0_0 _ _ l0_1 a1 _ _ l2 false _ ?side1 ?side2 ?side3 ?side4 ?side5 ?side6 A8.out).mono ?_); (case side1 => exact zC HR0_0 HB); (case side2 => exact HC0_0.out); (case side3 => exact zC HR0_1 HB); (case side4 => exact HC0_1.out); (case side5 => exact zC HR2 HB); (case side6 => exact HC2.out); rintro e w28 ⟨rfl, hb⟩; refine ⟨_, rfl, ?_⟩; replace BK440 := zK BK440 hb; replace HB := zB HB hb; (try clear hb)))
  go_meet
  case rel => exact ⟨_, (true), zt, H', zo, ⟨zK_ BK440⟩, ⟨zB_ HB⟩⟩
 case rest =>
  clear HC6; (try clear c1); (try clear c2); (try clear p2); (try clear c4); (try clear c9); (try clear c10); (try clear c10b0); (try clear c13); (try clear c13b0); (try clear c18); (try clear c20); (try clear hcz11_0); (try clear hcz11_1); (try clear hcz14_0); (try clear hcz14_1); (try clear hcz16_0); (try clear hcz16_1); (try clear hcz19_0); (try clear hcz19_1); (try clear hcz21_0); (try clear hcz21_1); (try clear hcz23_0); (try clear hcz23_1); (try clear hcz25_0); (try clear hcz25_1); (try clear hcz27_0); (try clear hcz27_1); (try clear hfz11_0); (try clear hfz11_1); (try clear hfz14_0); (try clear hfz14_1); (try clear hfz16_0); (try clear hfz16_1); (try clear hfz19_0); (try clear hfz19_1); (try clear hfz21_0); (try clear hfz21_1); (try clear hfz23_0); (try clear hfz23_1); (try clear hfz25_0); (try clear hfz25_1); (try clear hfz27_0); (try clear hfz27_1); obtain ⟨kq, x38_5, rfl, HA, HJ5, BK440, HB⟩ := hcut
  cases kq with
  | zero => exact absurd HA.out (by simp [impl_CoverConj.j0])
  | succ kj5 =>
   have H := HA.out; clear HA; simp only [impl_CoverConj.j0] at H
   by_cases c29 : x38_5 = true
   ·subst c29
    have H1 : (some (([] : List (List Int)), false)) = some (r1, r2) := by rw [if_pos rfl] at H; exact H
    clear H; have H := H1; clear H1; simp only [Option.some.injEq, Prod.mk.injEq] at H; obtain ⟨rfl, rfl⟩ := H
    go_wp2
    go_ret2
    exact ⟨_, by first | rfl | (simp [*] <;> rfl), by first | exact Kd.S_nil _ _ _ _ _ | exact Kd.N_nil _ _ _ _ _ | exact Kd.V_nil _ _ _ _ _ | exact Kd.Q_nil _ _ _ _ _ | exact Kd.R_nil _ _ _ _ _, zB_ HB⟩
   replace c29 := Bool.eq_false_iff.mpr c29; subst c29
   have H1 : ((impl_vertexOf.f kj5 l0_0 l0_1).bind fun t443 => (if 0 ≤ a3 then (if a3 < (t443.length : Int) then ((impl_conjAt.f kj5 l0_0 l0_1 l2 (rd t443 a3) l4).bind fun t447 => (some (t447, true))) else (none)) else (none))) = some (r1, r2) := by rw [if_neg (show ¬ (false = true) by decide)] at H; exact H
   clear H; have H := H1; clear H1; obtain ⟨t443, A30, H⟩ := zbind H
   by_cases c31 : 0 ≤ a3
   ·rw [if_pos c31] at H
    have c31b0 := dT c31; clear c31
    by_cases c32 : a3 < (t443.length : Int)
    ·rw [if_pos c32] at H
     have c32b0 := dT c32; clear c32; obtain ⟨t447, A33, H⟩ := zbind H; simp only [Option.some.injEq, Prod.mk.injEq] at H; obtain ⟨rfl, rfl⟩ := H
     try go_wp2
     replace BK440 := A0_ (kD BK440.out)
     replace HB := A0_ (bD HB.out)
     refine start_ (n := 11) (S := fun w' => w'.cell? ⟨gb440, 0, none⟩ = some (.slice A0_0 l0_0.length c0_0) ∧ w'.cell? ⟨gb440, 1, none⟩ = some (.slice A0_1 l0_1.length c0_1)) (ds := []) #[false, false, false, false, false, false, false, false, false, false, false] (by kernel_rfl) rfl rfl ⟨(kC BK440.out 0).trans rfl, (kC BK440.out 1).trans rfl⟩ (fun hHeld => ?_); refine with_tabW impl_CoverConj.tab3 impl_CoverConj.bits3 (fun HT_ HW_ => ?_)
     generalize wc.drew = w34 at BK440 HB hHeld ⊢
     refine zP 1 (some 40) #[false,true,false,false,false,false,false,false,false,false,false] ?_
     refine zP 4 (some 43) #[false,true,false,false,true,false,false,false,false,false,false] ?_
     refine zP 7 (some 46) #[false,true,false,false,true,false,false,true,false,false,false] ?_
     refine take_ (i := 0) (N := some 39) (v := ?_) (a' := ?_) #[true, true, false, false, true, false, false, true, false, false, false] rfl rfl (take_ofW HT_.out HW_.out (by kernel_rfl)) (fun _ _ _ h => h) (Or.inl ⟨by rfl, ?_⟩) hHeld ?_ ?_
     rotate_left
     ·rintro w' ⟨s0, s1⟩
      go_simp
      with_reducible rfl
     rotate_left
     ·simp only [Act.put, List.setIfInBounds_toArray, List.set_cons_zero, List.set_cons_succ, i64_w, i32_w]
      rfl
     refine take_ (i := 2) (N := some 41) (v := ?_) (a' := ?_) #[true, true, true, false, true, false, false, true, false, false, false] rfl rfl (take_ofW HT_.out HW_.out (by kernel_rfl)) (fun _ _ _ h => h) (Or.inl ⟨by rfl, ?_⟩) hHeld ?_ ?_
     rotate_left
     ·rintro w' ⟨s0, s1⟩
      go_simp
      with_reducible rfl
     rotate_left
     ·simp only [Act.put, List.setIfInBounds_toArray, List.set_cons_zero, List.set_cons_succ, i64_w, i32_w]
      rfl
     refine one_ (i := 3) (N := some 42) #[true, true, true, true, true, false, false, true, false, false, false] rfl rfl (one_of HT_.out (by kernel_rfl)) (by decide) (fun K hK => ?_)
     refine goes_ Try.func84 (by kernel_rfl) rfl #[.agg #[.slice A0_0 l0_0.length c0_0, .slice A0_1 l0_1.length c0_1]] (by rfl) rfl rfl (by (try simp only [List.map_toArray, List.map_cons, List.map_nil]); first | done | rfl | (simp only [List.length_drop, List.length_take]; rfl)) ?_
     with_reducible refine (impl_vertexOf.calls kj5 _ _ l0_0 _ _ l0_1 t443 _ ?side1 ?side2 ?side3 ?side4 A30.out).mono ?_
     (case side1 => exact zC HR0_0 HB)
     (case side2 => exact HC0_0.out)
     (case side3 => exact zC HR0_1 HB)
     (case side4 => exact HC0_1.out)
     rintro e w35 ⟨v444, rfl, ho0, hb⟩
     refine ⟨_, rfl, ?_⟩
     have HO445 := A0_ (rL ho0 (bZ (zB_ HB)))
     replace BK440 := zK BK440 hb; replace HB := zB HB hb; (try clear hb); (try clear hb2); (try clear hk); (try clear hi); (try clear ho0); obtain ⟨Ao36, co36, eo36⟩ := rS HO445.out
     (first | subst eo36 | (injection eo36 with f1_ f2_ f3_; have f4_ := f1_.symm; have f5_ := f3_.symm; clear f1_ f2_ f3_; subst f4_; subst f5_))
     have p446 : 0 ≤ (a3 : Int) := zd
     have q446 : a3 < (t443.length : Int) := zd
     obtain ⟨ad446, e446, hx446_0⟩ := tI (rR HO445.out).2.2 a3 p446 q446
     cases e446
     replace p446 := eq_true p446; replace q446 := eq_true q446
     refine hK.out _ _ ⟨(kC BK440.out 0).trans rfl, (kC BK440.out 1).trans rfl⟩ (fun hHeld => ?_)
     clear hK K
     refine norm_ (a' := ?_) ?_ ?_
     rotate_left
     ·show Act.put _ (some 42) _ = _
      simp only [Act.put, List.setIfInBounds_toArray, List.set_cons_zero, List.set_cons_succ, i64_w, i32_w]
      rfl
     refine zP 5 (some 44) #[true,true,true,true,true,true,false,true,false,false,false] ?_
     refine zO (i := 6) (N := some 45) (v := ?_) (a' := ?_) #[true, true, true, true, true, true, true, true, false, false, false] rfl rfl (one_of HT_.out (by kernel_rfl)) (by decide) (by rfl) ?_ hHeld ?_ ?_
     rotate_left
     ·go_simp
      with_reducible rfl
     rotate_left
     ·simp only [Act.put, List.setIfInBounds_toArray, List.set_cons_zero, List.set_cons_succ, i64_w, i32_w]
      rfl
     refine one_ (i := 8) (N := some 47) #[true, true, true, true, true, true, true, true, true, false, false] rfl rfl (one_of HT_.out (by kernel_rfl)) (by decide) (fun K hK => ?_)
     refine goes_ Try.func83 (by kernel_rfl) rfl #[.agg #[.slice A0_0 l0_0.length c0_0, .slice A0_1 l0_1.length c0_1], .slice A2 l2.length c2, .int .i64 (rd t443 a3), .slice A4 l4.length c4] (by rfl) rfl rfl (by (try simp only [List.map_toArray, List.map_cons, List.map_nil]); first | done | rfl | (simp only [List.length_drop, List.length_take]; rfl)) ?_
     with_reducible refine (impl_conjAt.calls kj5 _ _ l0_0 _ _ l0_1 _ _ l2 (rd t443 a3) _ _ l4 t447 _ ?side1 ?side2 ?side3 ?side4 ?side5 ?side6 ?side7 ?side8 A33.out).mono ?_
     (case side1 => exact zC HR0_0 HB)
     (case side2 => exact HC0_0.out)
     (case side3 => exact zC HR0_1 HB)
     (case side4 => exact HC0_1.out)
     (case side5 => exact zC HR2 HB)
     (case side6 => exact HC2.out)
     (case side7 => exact zC HR4 HB)
     (case side8 => exact HC4.out)
     rintro e w37 ⟨v448, rfl, ho0, hb⟩
     refine ⟨_, rfl, ?_⟩
     have HO449 := A0_ (Kd.S_lower (Kd.S_new' ho0 (rX (zR_ HO445))) (bZ (zB_ HB)))
     replace HO445 := zR HO445 hb; replace BK440 := zK BK440 hb; replace HB := zB HB hb; (try clear hb); (try clear hb2); (try clear hk); (try clear hi); (try clear ho0)
     refine hK.out _ _ ⟨(kC BK440.out 0).trans rfl, (kC BK440.out 1).trans rfl⟩ (fun hHeld => ?_)
     clear hK K
     refine norm_ (a' := ?_) ?_ ?_
     rotate_left
     ·show Act.put _ (some 47) _ = _
      simp only [Act.put, List.setIfInBounds_toArray, List.set_cons_zero, List.set_cons_succ, i64_w, i32_w]
      rfl
     refine zP 9 (some 10) #[true,true,true,true,true,true,true,true,true,true,false] ?_
     refine zP 10 (some 11) #[true,true,true,true,true,true,true,true,true,true,true] ?_
     refine done_ (done_of HT_.out (by kernel_rfl)) ?_
     try go_wp2
     go_ret2
     exact ⟨_, by first | rfl | (simp [*] <;> rfl), zmS HO449 (fun _ hk => trivial), zB_ HB⟩
    rw [if_neg c32] at H
    exact absurd H (by simp)
   rw [if_neg c31] at H
   exact absurd H (by simp)

end Go.Proofs.Ytmcgkckdnelcdaa.PFnExactCoverConj
