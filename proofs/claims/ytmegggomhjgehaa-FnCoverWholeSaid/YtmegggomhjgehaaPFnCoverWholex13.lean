-- Made by a program of this session (wip/tools) out of the loaded program; not trusted: Lean checks it.
import Derived.Test.YtmegggomhjgehaaPFnCoverWholex0
import Derived.Test.YtmegggomhjgehaaPFnCoverWholex6
import Derived.Test.YtmegggomhjgehaaPFnCoverWholex11
import Derived.Test.YtmegggomhjgehaaPFnCoverWholex12
-- packed
namespace Go.Proofs.Ytmegggomhjgehaa.PFnCoverWhole
open Go.RowKit Go.Proofs.YtmegggomhjgehaaW.PrintWords Go.Proofs.YtmegggomhjgehaaW.PrintLast Go.Proofs.YtmegggomhjgehaaW.PrintMore
attribute [local go_sem] max2_int min2_int max_two min_two max_three min_three max_four min_four   -- for this text's walks alone
set_option linter.unusedVariables false
set_option linter.unusedSimpArgs false

/-! ### impl_conjAt: function 63 -/
def impl_conjAt.l0 : Nat → List (List Int) → Int → List Int → List Int → List (List Int) → List Int → Int → Int → List Int → List Int → Option ((List (List Int)))
  | 0, _, _, _, _, _, _, _, _, _, _ => none
  | k + 1, x1, x2, x3, x9, x10, x18, x19, x20, x464000, x464001 => if x20 < x19 then (if 0 ≤ x20 then (if x20 < (x18.length : Int) then (if x20 < (x1.length : Int) then ((slices_Clone_int_int.f (rd_L2 x1 x20)).bind fun t475 => (if 0 ≤ (rd x18 x20) then (if (rd x18 x20) < (x9.length : Int) then (if (rd x9 (rd x18 x20)) = x2 then ((impl_back.f k x3).bind fun t479 => ((impl_mul.f k t479 t475).bind fun t482 => (if (rd x18 x20) < (x464001.length : Int) then (if 0 ≤ (rd x464001 (rd x18 x20)) then (if (rd x464001 (rd x18 x20)) < (x9.length : Int) then (if (rd x9 (rd x464001 (rd x18 x20))) = x2 then ((impl_mul.f k t482 x3).bind fun t487 => (if x10.length < 5864062014805 then (impl_conjAt.l0 k x1 x2 x3 x9 (x10 ++ [t487]) x18 x19 (wrap64 (x20 + 1)) x464000 x464001) else (none))) else (if x10.length < 5864062014805 then (impl_conjAt.l0 k x1 x2 x3 x9 (x10 ++ [t482]) x18 x19 (wrap64 (x20 + 1)) x464000 x464001) else (none))) else (none)) else (none)) else (none)))) else (if (rd x18 x20) < (x464001.length : Int) then (if 0 ≤ (rd x464001 (rd x18 x20)) then (if (rd x464001 (rd x18 x20)) < (x9.length : Int) then (if (rd x9 (rd x464001 (rd x18 x20))) = x2 then ((impl_mul.f k t475 x3).bind fun t498 => (if x10.length < 5864062014805 then (impl_conjAt.l0 k x1 x2 x3 x9 (x10 ++ [t498]) x18 x19 (wrap64 (x20 + 1)) x464000 x464001) else (none))) else (if x10.length < 5864062014805 then (impl_conjAt.l0 k x1 x2 x3 x9 (x10 ++ [t475]) x18 x19 (wrap64 (x20 + 1)) x464000 x464001) else (none))) else (none)) else (none)) else (none))) else (none)) else (none))) else (none)) else (none)) else (none)) else (some x10)
def impl_conjAt.f (k : Nat) (l0_0 : List Int) (l0_1 : List Int) (l1 : List (List Int)) (a2 : Int) (l3 : List Int) : Option ((List (List Int))) := (impl_vertexOf.f k l0_0 l0_1).bind fun t464 => ((impl_edgesOf.f k l0_0 l0_1).bind fun t470 => (impl_conjAt.l0 k l1 a2 l3 t464 (([] : List (List Int))) t470 (t470.length : Int) 0 l0_0 l0_1))
set_option maxHeartbeats 8000000 in
set_option maxRecDepth 100000 in
theorem impl_conjAt.calls (k : Nat) (A0_0 : Option Addr) (c0_0 : Nat) (l0_0 : List Int) (A0_1 : Option Addr) (c0_1 : Nat) (l0_1 : List Int) (A1 : Option Addr) (c1 : Nat) (l1 : List (List Int)) (a2 : Int) (A3 : Option Addr) (c3 : Nat) (l3 : List Int) (r : List (List Int)) (w : World) (hr0_0 : Kd.C (Kd.int .i64) w A0_0 l0_0.length l0_0) (hc0_0 : l0_0.length ≤ c0_0) (hr0_1 : Kd.C (Kd.int .i64) w A0_1 l0_1.length l0_1) (hc0_1 : l0_1.length ≤ c0_1) (hr1 : Kd.C (Kd.slice 3 (Kd.int .i64)) w A1 l1.length l1) (hc1 : l1.length ≤ c1) (hr3 : Kd.C (Kd.int .i64) w A3 l3.length l3) (hc3 : l3.length ≤ c3) (h : impl_conjAt.f k l0_0 l0_1 l1 a2 l3 = some r) :
    Calls Try.prog 63 #[.agg #[.slice A0_0 l0_0.length c0_0, .slice A0_1 l0_1.length c0_1], .slice A1 l1.length c1, .int .i64 a2, .slice A3 l3.length c3] w fun e w' => ∃ v0_ : Value, e = .returned (v0_) ∧ Kd.S (Kd.slice 3 (Kd.int .i64)) 23 w' w.heap.size (fun _ => True) v0_ r ∧ Below w.heap.size w w' := by
 have hu25 := Try.underlying25; have HR0_0 := A0_ hr0_0; have HC0_0 := A0_ hc0_0; clear hr0_0 hc0_0; have HR0_1 := A0_ hr0_1; have HC0_1 := A0_ hc0_1; clear hr0_1 hc0_1; have HR1 := A0_ hr1; have HC1 := A0_ hc1; clear hr1 hc1; have HR3 := A0_ hr3; have HC3 := A0_ hc3; clear hr3 hc3
 have HB := A0_ (Below.refl w.heap.size w)
 have H : ((impl_vertexOf.f k l0_0 l0_1).bind fun t464 => ((impl_edgesOf.f k l0_0 l0_1).bind fun t470 => (impl_conjAt.l0 k l1 a2 l3 t464 (([] : List (List Int))) t470 (t470.length : Int) 0 l0_0 l0_1))) = some r := h
 clear h; obtain ⟨t464, A5, H⟩ := zbind H
 obtain ⟨y467, hy467⟩ : ∃ y_ : List (List Int), y_ = (([] : List (List Int))) := ⟨_, rfl⟩
 replace H : ((impl_edgesOf.f k l0_0 l0_1).bind fun t470 => (impl_conjAt.l0 k l1 a2 l3 t464 y467 t470 (t470.length : Int) 0 l0_0 l0_1)) = some r := zH hy467 H
 have Ny467 := A0_ hy467; clear hy467; obtain ⟨t470, A6, H⟩ := zbind H; have H' := A0_ H; clear H
 go_enter Try.func63, Try.ntmps63
 go_wp2_with (first | ((with_reducible refine gD (N := 4) rfl ?_); refine zX (N := 4) (cs := #[.slice A0_0 l0_0.length c0_0, .slice A0_1 l0_1.length c0_1]) (t := 25) ?_; intro gb463 hg w7 hbox hb; have BK463 := A0_ (hbox); have GW463 := zG hg HB; have GE463 := zG hg HB; replace HB := zB HB hb; clear hb hbox hg; have hcz8_0 := zc0 BK463; have hcz8_1 := zc1 BK463; have hfz8_0 := kF BK463.out 0; have hfz8_1 := kF BK463.out 1) | ((with_reducible refine gC (f := 59) rfl ?_); refine zJ (some 15) Try.func59 #[.agg #[.slice A0_0 l0_0.length c0_0, .slice A0_1 l0_1.length c0_1]] ?_; (with_reducible refine (impl_vertexOf.calls k _ _ l0_0 _ _ l0_1 t464 _ ?side1 ?side2 ?side3 ?side4 A5.out).mono ?_); (case side1 => exact zC HR0_0 HB); (case side2 => exact HC0_0.out); (case side3 => exact zC HR0_1 HB); (case side4 => exact HC0_1.out); rintro e w9 ⟨v465, rfl, ho0, hb⟩; refine ⟨_, rfl, ?_⟩; have HO466 := A0_ (rL ho0 (bZ (zB_ HB))); replace BK463 := zK BK463 hb; replace HB := zB HB hb; (try clear hb); (try clear ho0)) | ((with_reducible refine gD (N := 16) rfl ?_); refine Kd.S_lit (Kd.slice 3 (Kd.int .i64)) _ 23 ?hg (N := 16) ?hd (xs := ([] : List (List Int))) (inner := []) (ok := fun _ => True) (okp := fun _ => True) ?hr ?hp (fun _ hk => hk) trivial (Below.refl _ _) (Nat.le_refl _) (by simp) ?_; (case hd => rfl); (case hg => rfl); (case hr => first | (go_simp; done) | (go_simp; rfl)); (case hp => exact (Reps.none _ _)); intro v468 w10 ho11 hb hg_ hnew_; clear hg_ hnew_; (first | rw [← Ny467.out] at ho11 | (simp only [Int.reduceToNat] at ho11; rw [← Ny467.out] at ho11)); have HO469 := A0_ (Kd.S_lower (Kd.S_new' ho11 (rX (zR_ HO466))) (bZ (zB_ HB))); replace HO466 := zR HO466 hb; replace BK463 := zK BK463 hb; replace HB := zB HB hb; clear hb ho11; have hcz12_0 := zc0 BK463; have hcz12_1 := zc1 BK463; have hfz12_0 := kF BK463.out 0; have hfz12_1 := kF BK463.out 1) | ((with_reducible refine gC (f := 105) rfl ?_); refine zJ (some 18) Try.func105 #[.agg #[.slice A0_0 l0_0.length c0_0, .slice A0_1 l0_1.length c0_1]] ?_; (with_reducible refine (impl_edgesOf.calls k _ _ l0_0 _ _ l0_1 t470 _ ?side1 ?side2 ?side3 ?side4 A6.out).mono ?_); (case side1 => exact zC HR0_0 HB); (case side2 => exact HC0_0.out); (case side3 => exact zC HR0_1 HB); (case side4 => exact HC0_1.out); rintro e w13 ⟨v471, rfl, ho0, hb⟩; refine ⟨_, rfl, ?_⟩; replace HO469 := A0_ (Kd.S_elder' (zS_ HO469) (Kd.R_base ho0) hb); have HO472 := A0_ (rL (Kd.R_new' ho0 (rX (zR_ HO466))) (bZ (zB_ HB))); replace HO466 := A0_ (Kd.R_elder' (zR_ HO466) (Kd.R_base ho0) hb); replace BK463 := zK BK463 hb; replace HB := zB HB hb; (try clear hb); (try clear ho0); obtain ⟨Ao14, co14, eo14⟩ := rS HO472.out; subst eo14))
 go_loopg [10, 20] k (fun kq v10 v20 w' => ∃ (x10_1 : List (List Int)) (x20_1 : Int), v20 = .int .i64 x20_1 ∧ Aside0 (impl_conjAt.l0 kq l1 a2 l3 t464 x10_1 t470 (t470.length : Int) x20_1 l0_0 l0_1 = some r) ∧ Aside0 (kq ≤ k) ∧ Aside0 (Kd.R (Kd.int .i64) 3 w' w.heap.size (fun k_ => some k_ ≠ ((.slice Ao14 t470.length co14) : Value).ownBlock) v465 t464) ∧ Aside0 (Kd.S (Kd.slice 3 (Kd.int .i64)) 23 w' w.heap.size (fun k_ => some k_ ≠ (v465 : Value).ownBlock ∧ some k_ ≠ ((.slice Ao14 t470.length co14) : Value).ownBlock) v10 x10_1) ∧ Aside0 (Kd.R (Kd.int .i64) 3 w' w.heap.size (fun k_ => some k_ ≠ (v465 : Value).ownBlock) (.slice Ao14 t470.length co14) t470) ∧ Aside0 (w'.heap[gb463]? = some (.cells #[(.slice A0_0 l0_0.length c0_0), (.slice A0_1 l0_1.length c0_1)] 25 (0, 0))) ∧ Aside0 (Below w.heap.size w w'))
 case atStart => exact ⟨(y467), (0), zt, H', ⟨Nat.le_refl _⟩, ⟨zmR HO466 (fun _ hk => hk.2)⟩, ⟨zmS HO469 (fun _ hk => ⟨hk.1.2, hk.2⟩)⟩, ⟨zmR HO472 (fun _ hk => hk.2)⟩, ⟨zK_ BK463⟩, ⟨zB_ HB⟩⟩
 case round =>
  clear H'; (try clear c1); (try clear p2); (try clear c3); (try clear c5); (try clear c6); (try clear c10); (try clear hcz12_0); (try clear hcz12_1); (try clear hcz8_0); (try clear hcz8_1); (try clear hfz12_0); (try clear hfz12_1); (try clear hfz8_0); (try clear hfz8_1); obtain ⟨x10_1, x20_1, rfl, HA, HK1, HO_9, HO_10, HO_18, BK463, HB⟩ := hrel
  cases gk with
  | zero => exact absurd HA.out (by simp [impl_conjAt.l0])
  | succ k1 =>
   have H := HA.out; clear HA; simp only [impl_conjAt.l0] at H
   by_cases c15 : x20_1 < (t470.length : Int)
   ·rw [if_pos c15] at H
    have c15b0 := dT c15; clear c15
    by_cases c16 : 0 ≤ x20_1
    ·rw [if_pos c16] at H
     have c16b0 := dT c16; clear c16
     by_cases c17 : x20_1 < (t470.length : Int)
     ·rw [if_pos c17] at H
      have c17b0 := dT c17; clear c17
      by_cases c18 : x20_1 < (l1.length : Int)
      ·rw [if_pos c18] at H
       have c18b0 := dT c18; clear c18; obtain ⟨t475, A19, H⟩ := zbind H
       by_cases c20 : 0 ≤ (rd t470 x20_1)
       ·rw [if_pos c20] at H
        have c20b0 := dT c20; clear c20
        by_cases c21 : (rd t470 x20_1) < (t464.length : Int)
        ·rw [if_pos c21] at H
         have c21b0 := dT c21; clear c21
         by_cases c22 : (rd t464 (rd t470 x20_1)) = a2
         ·rw [if_pos c22] at H
          have c22b0 : ((rd t464 (rd t470 x20_1)) == a2) = true := beq_iff_eq.mpr c22
          have c22b1 : ((rd t464 (rd t470 x20_1)) != a2) = false := bne_eq_false_iff_eq.mpr c22
          clear c22; obtain ⟨t479, A23, H⟩ := zbind H; obtain ⟨t482, A24, H⟩ := zbind H
          by_cases c25 : (rd t470 x20_1) < (l0_1.length : Int)
          ·rw [if_pos c25] at H
           have c25b0 := dT c25; clear c25
           by_cases c26 : 0 ≤ (rd l0_1 (rd t470 x20_1))
           ·rw [if_pos c26] at H
            have c26b0 := dT c26; clear c26
            by_cases c27 : (rd l0_1 (rd t470 x20_1)) < (t464.length : Int)
            ·rw [if_pos c27] at H
             have c27b0 := dT c27; clear c27
             by_cases c28 : (rd t464 (rd l0_1 (rd t470 x20_1))) = a2
             ·rw [if_pos c28] at H
              have c28b0 : ((rd t464 (rd l0_1 (rd t470 x20_1))) == a2) = true := beq_iff_eq.mpr c28
              have c28b1 : ((rd t464 (rd l0_1 (rd t470 x20_1))) != a2) = false := bne_eq_false_iff_eq.mpr c28
              clear c28; obtain ⟨t487, A29, H⟩ := zbind H
              by_cases c30 : x10_1.length < 5864062014805
              ·rw [if_pos c30] at H
               have LMc30 := A0_ c30; clear c30
               obtain ⟨y490, hy490⟩ : ∃ y_ : List (List Int), y_ = (x10_1 ++ [t487]) := ⟨_, rfl⟩
               replace H : (impl_conjAt.l0 k1 l1 a2 l3 t464 y490 t470 (t470.length : Int) (wrap64 (x20_1 + 1)) l0_0 l0_1) = some r := zH hy490 H
               have Ny490 := A0_ hy490; clear hy490; have H' := A0_ H; clear H
               have p473 : 0 ≤ (x20_1 : Int) := zd
               have q473 : x20_1 < (t470.length : Int) := zd
               obtain ⟨ad473, e473, hx473_0⟩ := tI (rR HO_18.out).2.2 x20_1 p473 q473
               cases e473
               replace p473 := eq_true p473; replace q473 := eq_true q473
               have p474 : 0 ≤ (x20_1 : Int) := zd
               have q474 : x20_1 < (l1.length : Int) := zd
               obtain ⟨ad474, A474_0, c474_0, e474, hx474_0, hl474_0, hi474_0⟩ := at_L2 HR1.out x20_1 p474 q474
               cases e474
               try replace hx474_0 := (HB.out.cell (wL w _ hx474_0)).trans hx474_0
               have HR474_0 := A0_ hi474_0; have HC474_0 := A0_ hl474_0; clear hi474_0 hl474_0; replace p474 := eq_true p474; replace q474 := eq_true q474
               go_wp2_with (first | ((with_reducible refine gC (f := 106) rfl ?_); refine zJ (some 29) Try.func106 #[.slice A474_0 (rd_L2 l1 x20_1).length c474_0] ?_; (with_reducible refine (slices_Clone_int_int.calls _ _ (rd_L2 l1 x20_1) t475 _ ?side1 ?side2 A19.out).mono ?_); (case side1 => exact zC HR474_0 HB); (case side2 => exact HC474_0.out); rintro e w31 ⟨v476, rfl, ho0, hb⟩; refine ⟨_, rfl, ?_⟩; replace HO_10 := A0_ (Kd.S_elder' (zS_ HO_10) (Kd.R_base ho0) hb); have HO477 := A0_ (rL (Kd.R_new' (Kd.R_new' ho0 (rX (zR_ HO_9))) (rX (zR_ HO_18))) (bZ (zB_ HB))); replace HO_9 := A0_ (Kd.R_elder' (zR_ HO_9) (Kd.R_base ho0) hb); replace HO_18 := A0_ (Kd.R_elder' (zR_ HO_18) (Kd.R_base ho0) hb); replace BK463 := zK BK463 hb; replace HB := zB HB hb; (try clear hb); (try clear ho0); obtain ⟨Ao32, co32, eo32⟩ := rS HO_9.out; subst eo32; have p478 : 0 ≤ ((rd t470 x20_1) : Int) := zd; have q478 : (rd t470 x20_1) < (t464.length : Int) := zd; obtain ⟨ad478, e478, hx478_0⟩ := tI (rR HO_9.out).2.2 (rd t470 x20_1) p478 q478; cases e478; replace p478 := eq_true p478; replace q478 := eq_true q478) | ((with_reducible refine gC (f := 60) rfl ?_); refine zJ (some 37) Try.func60 #[.slice A3 l3.length c3] ?_; (with_reducible refine (impl_back.calls k1 _ _ l3 t479 _ ?side1 ?side2 A23.out).mono ?_); (case side1 => exact zC HR3 HB); (case side2 => exact HC3.out); rintro e w33 ⟨v480, rfl, ho0, hb⟩; refine ⟨_, rfl, ?_⟩; replace HO_10 := A0_ (Kd.S_elder' (zS_ HO_10) (Kd.R_base ho0) hb); have HO481 := A0_ (rL (Kd.R_new' (Kd.R_new' (Kd.R_new' ho0 (rX (zR_ HO_9))) (rX (zR_ HO_18))) (rX (zR_ HO477))) (bZ (zB_ HB))); replace HO_9 := A0_ (Kd.R_elder' (zR_ HO_9) (Kd.R_base ho0) hb); replace HO_18 := A0_ (Kd.R_elder' (zR_ HO_18) (Kd.R_base ho0) hb); replace HO477 := A0_ (Kd.R_elder' (zR_ HO477) (Kd.R_base ho0) hb); replace BK463 := zK BK463 hb; replace HB := zB HB hb; (try clear hb); (try clear ho0); obtain ⟨Ao34, co34, eo34⟩ := rS HO481.out; subst eo34; obtain ⟨Ao35, co35, eo35⟩ := rS HO477.out; subst eo35) | ((with_reducible refine gC (f := 69) rfl ?_); refine zJ (some 39) Try.func69 #[.slice Ao34 t479.length co34, .slice Ao35 t475.length co35] ?_; (with_reducible refine (impl_mul.calls k1 _ _ t479 _ _ t475 t482 _ ?side1 ?side2 ?side3 ?side4 A24.out).mono ?_); (case side1 => exact zD HO481); (case side2 => exact (rR HO481.out).2.1); (case side3 => exact zD HO477); (case side4 => exact (rR HO477.out).2.1); rintro e w36 ⟨v483, rfl, ho0, hb⟩; refine ⟨_, rfl, ?_⟩; replace HO_10 := A0_ (Kd.S_elder' (zS_ HO_10) (Kd.R_base ho0) hb); have HO484 := A0_ (rL (Kd.R_new' (Kd.R_new' (Kd.R_new' (Kd.R_new' ho0 (rX (zR_ HO_9))) (rX (zR_ HO_18))) (rX (zR_ HO477))) (rX (zR_ HO481))) (bZ (zB_ HB))); replace HO_9 := A0_ (Kd.R_elder' (zR_ HO_9) (Kd.R_base ho0) hb); replace HO_18 := A0_ (Kd.R_elder' (zR_ HO_18) (Kd.R_base ho0) hb); replace HO477 := A0_ (Kd.R_elder' (zR_ HO477) (Kd.R_base ho0) hb); replace HO481 := A0_ (Kd.R_elder' (zR_ HO481) (Kd.R_base ho0) hb); replace BK463 := zK BK463 hb; replace HB := zB HB hb; (try clear hb); (try clear ho0); have hcz37_0 := zc0 BK463; have hcz37_1 := zc1 BK463; have hfz37_0 := kF BK463.out 0; have hfz37_1 := kF BK463.out 1; have p485 : 0 ≤ ((rd t470 x20_1) : Int) := zd; have q485 : (rd t470 x20_1) < (l0_1.length : Int) := zd; obtain ⟨ad485, e485, hx485_0⟩ := tI HR0_1.out (rd t470 x20_1) p485 q485; cases e485; try replace hx485_0 := (HB.out.cell (wL w _ hx485_0)).trans hx485_0; replace p485 := eq_true p485; replace q485 := eq_true q485; have p486 : 0 ≤ ((rd l0_1 (rd t470 x20_1)) : Int) := zd; have q486 : (rd l0_1 (rd t470 x20_1)) < (t464.length : Int) := zd; obtain ⟨ad486, e486, hx486_0⟩ := tI (rR HO_9.out).2.2 (rd l0_1 (rd t470 x20_1)) p486 q486; obtain rfl : ad478 = ad486 := (by injection e486); replace p486 := eq_true p486; replace q486 := eq_true q486; obtain ⟨Ao38, co38, eo38⟩ := rS HO484.out; subst eo38) | ((with_reducible refine gC (f := 69) rfl ?_); refine zJ (some 52) Try.func69 #[.slice Ao38 t482.length co38, .slice A3 l3.length c3] ?_; (with_reducible refine (impl_mul.calls k1 _ _ t482 _ _ l3 t487 _ ?side1 ?side2 ?side3 ?side4 A29.out).mono ?_); (case side1 => exact zD HO484); (case side2 => exact (rR HO484.out).2.1); (case side3 => exact zC HR3 HB); (case side4 => exact HC3.out); rintro e w39 ⟨v488, rfl, ho0, hb⟩; refine ⟨_, rfl, ?_⟩; replace HO_10 := A0_ (Kd.S_elder' (zS_ HO_10) (Kd.R_base ho0) hb); have HO489 := A0_ (rL (Kd.R_new' (Kd.R_new' (Kd.R_new' (Kd.R_new' (Kd.R_new' ho0 (rX (zR_ HO_9))) (rX (zR_ HO_18))) (rX (zR_ HO477))) (rX (zR_ HO481))) (rX (zR_ HO484))) (bZ (zB_ HB))); replace HO_9 := A0_ (Kd.R_elder' (zR_ HO_9) (Kd.R_base ho0) hb); replace HO_18 := A0_ (Kd.R_elder' (zR_ HO_18) (Kd.R_base ho0) hb); replace HO477 := A0_ (Kd.R_elder' (zR_ HO477) (Kd.R_base ho0) hb); replace HO481 := A0_ (Kd.R_elder' (zR_ HO481) (Kd.R_base ho0) hb); replace HO484 := A0_ (Kd.R_elder' (zR_ HO484) (Kd.R_base ho0) hb); replace BK463 := zK BK463 hb; replace HB := zB HB hb; (try clear hb); (try clear ho0); obtain ⟨Ao41, co41, eo41⟩ := rS HO489.out; subst eo41) | ((with_reducible refine gB (b := .append) (xs := #[.tmp 53, .tmp 55]) rfl ?_); at_builtin; refine Kd.S_append (Kd.slice 3 (Kd.int .i64)) (w0 := w) w.heap.size rfl (.tmp 53) (.tmp 55) 26 23 (.slice none 0 0) 24 rfl Try.underlying26 info23 rfl (by decide) (by omega) u10 x10_1 t487 [.slice Ao41 t487.length co41] (fun k_ => some k_ ≠ (.slice (some ad478) t464.length co32 : Value).ownBlock ∧ some k_ ≠ (.slice (some ad473) t470.length co14 : Value).ownBlock ∧ some k_ ≠ (.slice Ao35 t475.length co35 : Value).ownBlock ∧ some k_ ≠ (.slice Ao34 t479.length co34 : Value).ownBlock ∧ some k_ ≠ (.slice Ao38 t482.length co38 : Value).ownBlock) (fun k_ => some k_ = (.slice Ao41 t487.length co41 : Value).ownBlock) rfl rfl ?aP (fun k_ hk_ => ((rM (ok' := fun k_ => ((fun k_ => some k_ ≠ (.slice (some ad478) t464.length co32 : Value).ownBlock ∧ some k_ ≠ (.slice (some ad473) t470.length co14 : Value).ownBlock ∧ some k_ ≠ (.slice Ao35 t475.length co35 : Value).ownBlock ∧ some k_ ≠ (.slice Ao34 t479.length co34 : Value).ownBlock ∧ some k_ ≠ (.slice Ao38 t482.length co38 : Value).ownBlock)) k_ ∧ some k_ ≠ (u10 : Value).ownBlock) (Kd.R_apart' (HO489.out) (Kd.S_typed HO_10.out) (by decide)) (fun k_ hk => ⟨⟨hk.1.1.1.1.1.2, ⟨hk.1.1.1.1.2, ⟨hk.1.1.1.2, ⟨hk.1.1.2, hk.1.2⟩⟩⟩⟩, hk.2⟩))).1 k_ hk_.symm) ?aF ?aO ?aB ?aS ?aL ?_; (case aP => exact Kd.M_row (rM (Kd.R_tight rfl (rM (ok' := fun k_ => ((fun k_ => some k_ ≠ (.slice (some ad478) t464.length co32 : Value).ownBlock ∧ some k_ ≠ (.slice (some ad473) t470.length co14 : Value).ownBlock ∧ some k_ ≠ (.slice Ao35 t475.length co35 : Value).ownBlock ∧ some k_ ≠ (.slice Ao34 t479.length co34 : Value).ownBlock ∧ some k_ ≠ (.slice Ao38 t482.length co38 : Value).ownBlock)) k_ ∧ some k_ ≠ (u10 : Value).ownBlock) (Kd.R_apart' (HO489.out) (Kd.S_typed HO_10.out) (by decide)) (fun k_ hk => ⟨⟨hk.1.1.1.1.1.2, ⟨hk.1.1.1.1.2, ⟨hk.1.1.1.2, ⟨hk.1.1.2, hk.1.2⟩⟩⟩⟩, hk.2⟩))) (fun _ h_ => h_))); (case aB => exact (zB_ HB)); (case aF => exact (fun k_ hk => ⟨Kd.fresh' (rX (zR_ HO_9)) k_ hk, Kd.fresh' (rX (zR_ HO_18)) k_ hk, Kd.fresh' (rX (zR_ HO477)) k_ hk, Kd.fresh' (rX (zR_ HO481)) k_ hk, Kd.fresh' (rX (zR_ HO484)) k_ hk⟩)); (case aO => exact (zmS HO_10 (fun k_ hk => ⟨⟨hk.1.1.1.1.1, ⟨hk.1.1.1.1.2, ⟨hk.1.1.1.2, ⟨hk.1.1.2, hk.1.2⟩⟩⟩⟩, fun e_ => hk.2 e_⟩))); (case aS => exact (bZ (zB_ HB))); (case aL => have := LMc30.out; omega); intro v491 w40 ho hb hg hat; rw [← Ny490.out] at ho; replace HO_9 := A0_ (Kd.R_over' (zR_ HO_9) (Kd.S_typed (zS_ HO_10)) (by decide) hg); replace HO_18 := A0_ (Kd.R_over' (zR_ HO_18) (Kd.S_typed (zS_ HO_10)) (by decide) hg); replace BK463 := A0_ (blk_grown (g := gb463) (o := .cells #[.slice A0_0 l0_0.length c0_0, .slice (some ad485) l0_1.length c0_1] 25 (0, 0)) (zK_ BK463) hg (Kd.S_ne HO_10.out BK463.out (by decide))); replace HO477 := A0_ (Kd.R_over' (zR_ HO477) (Kd.S_typed (zS_ HO_10)) (by decide) hg); replace HO481 := A0_ (Kd.R_over' (zR_ HO481) (Kd.S_typed (zS_ HO_10)) (by decide) hg); replace HO484 := A0_ (Kd.R_over' (zR_ HO484) (Kd.S_typed (zS_ HO_10)) (by decide) hg); replace HB := A0_ (hb); have HO492 := A0_ (ho); clear HO_10 HO489 ho hb hg hat))
               go_roundg k1
               case measure => have := HK1.out; omega
               case rel => exact ⟨(y490), (wrap64 (x20_1 + 1)), zt, H', ⟨by have := HK1.out; omega⟩, ⟨zmR HO_9 (fun _ hk => hk.1.1.1.1)⟩, ⟨zmS HO492 (fun _ hk => ⟨hk.1, hk.2.1⟩)⟩, ⟨zmR HO_18 (fun _ hk => hk.1.1.1.1)⟩, ⟨zK_ BK463⟩, ⟨zB_ HB⟩⟩
              rw [if_neg c30] at H
              exact absurd H (by simp)
             rw [if_neg c28] at H
             have c28b0 : ((rd t464 (rd l0_1 (rd t470 x20_1))) == a2) = false := beq_eq_false_iff_ne.mpr c28
             have c28b1 : ((rd t464 (rd l0_1 (rd t470 x20_1))) != a2) = true := bne_iff_ne.mpr c28
             by_cases c42 : x10_1.length < 5864062014805
             ·rw [if_pos c42] at H
              have LMc42 := A0_ c42; clear c42
              obtain ⟨y493, hy493⟩ : ∃ y_ : List (List Int), y_ = (x10_1 ++ [t482]) := ⟨_, rfl⟩
              replace H : (impl_conjAt.l0 k1 l1 a2 l3 t464 y493 t470 (t470.length : Int) (wrap64 (x20_1 + 1)) l0_0 l0_1) = some r := zH hy493 H
              have Ny493 := A0_ hy493; clear hy493; have H' := A0_ H; clear H
              have p473 : 0 ≤ (x20_1 : Int) := zd
              have q473 : x20_1 < (t470.length : Int) := zd
              obtain ⟨ad473, e473, hx473_0⟩ := tI (rR HO_18.out).2.2 x20_1 p473 q473
              cases e473
              replace p473 := eq_true p473; replace q473 := eq_true q473
              have p474 : 0 ≤ (x20_1 : Int) := zd
              have q474 : x20_1 < (l1.length : Int) := zd
              obtain ⟨ad474, A474_0, c474_0, e474, hx474_0, hl474_0, hi474_0⟩ := at_L2 HR1.out x20_1 p474 q474
              cases e474
              try replace hx474_0 := (HB.out.cell (wL w _ hx474_0)).trans hx474_0
              have HR474_0 := A0_ hi474_0; have HC474_0 := A0_ hl474_0; clear hi474_0 hl474_0; replace p474 := eq_true p474; replace q474 := eq_true q474
              go_wp2_with (first | ((with_reducible refine gC (f := 106) rfl ?_); refine zJ (some 29) Try.func106 #[.slice A474_0 (rd_L2 l1 x20_1).length c474_0] ?_; (with_reducible refine (slices_Clone_int_int.calls _ _ (rd_L2 l1 x20_1) t475 _ ?side1 ?side2 A19.out).mono ?_); (case side1 => exact zC HR474_0 HB); (case side2 => exact HC474_0.out); rintro e w43 ⟨v476, rfl, ho0, hb⟩; refine ⟨_, rfl, ?_⟩; replace HO_10 := A0_ (Kd.S_elder' (zS_ HO_10) (Kd.R_base ho0) hb); have HO477 := A0_ (rL (Kd.R_new' (Kd.R_new' ho0 (rX (zR_ HO_9))) (rX (zR_ HO_18))) (bZ (zB_ HB))); replace HO_9 := A0_ (Kd.R_elder' (zR_ HO_9) (Kd.R_base ho0) hb); replace HO_18 := A0_ (Kd.R_elder' (zR_ HO_18) (Kd.R_base ho0) hb); replace BK463 := zK BK463 hb; replace HB := zB HB hb; (try clear hb); (try clear ho0); obtain ⟨Ao44, co44, eo44⟩ := rS HO_9.out; subst eo44; have p478 : 0 ≤ ((rd t470 x20_1) : Int) := zd; have q478 : (rd t470 x20_1) < (t464.length : Int) := zd; obtain ⟨ad478, e478, hx478_0⟩ := tI (rR HO_9.out).2.2 (rd t470 x20_1) p478 q478; cases e478; replace p478 := eq_true p478; replace q478 := eq_true q478) | ((with_reducible refine gC (f := 60) rfl ?_); refine zJ (some 37) Try.func60 #[.slice A3 l3.length c3] ?_; (with_reducible refine (impl_back.calls k1 _ _ l3 t479 _ ?side1 ?side2 A23.out).mono ?_); (case side1 => exact zC HR3 HB); (case side2 => exact HC3.out); rintro e w45 ⟨v480, rfl, ho0, hb⟩; refine ⟨_, rfl, ?_⟩; replace HO_10 := A0_ (Kd.S_elder' (zS_ HO_10) (Kd.R_base ho0) hb); have HO481 := A0_ (rL (Kd.R_new' (Kd.R_new' (Kd.R_new' ho0 (rX (zR_ HO_9))) (rX (zR_ HO_18))) (rX (zR_ HO477))) (bZ (zB_ HB))); replace HO_9 := A0_ (Kd.R_elder' (zR_ HO_9) (Kd.R_base ho0) hb); replace HO_18 := A0_ (Kd.R_elder' (zR_ HO_18) (Kd.R_base ho0) hb); replace HO477 := A0_ (Kd.R_elder' (zR_ HO477) (Kd.R_base ho0) hb); replace BK463 := zK BK463 hb; replace HB := zB HB hb; (try clear hb); (try clear ho0); obtain ⟨Ao46, co46, eo46⟩ := rS HO481.out; subst eo46; obtain ⟨Ao47, co47, eo47⟩ := rS HO477.out; subst eo47) | ((with_reducible refine gC (f := 69) rfl ?_); refine zJ (some 39) Try.func69 #[.slice Ao46 t479.length co46, .slice Ao47 t475.length co47] ?_; (with_reducible refine (impl_mul.calls k1 _ _ t479 _ _ t475 t482 _ ?side1 ?side2 ?side3 ?side4 A24.out).mono ?_); (case side1 => exact zD HO481); (case side2 => exact (rR HO481.out).2.1); (case side3 => exact zD HO477); (case side4 => exact (rR HO477.out).2.1); rintro e w48 ⟨v483, rfl, ho0, hb⟩; refine ⟨_, rfl, ?_⟩; replace HO_10 := A0_ (Kd.S_elder' (zS_ HO_10) (Kd.R_base ho0) hb); have HO484 := A0_ (rL (Kd.R_new' (Kd.R_new' (Kd.R_new' (Kd.R_new' ho0 (rX (zR_ HO_9))) (rX (zR_ HO_18))) (rX (zR_ HO477))) (rX (zR_ HO481))) (bZ (zB_ HB))); replace HO_9 := A0_ (Kd.R_elder' (zR_ HO_9) (Kd.R_base ho0) hb); replace HO_18 := A0_ (Kd.R_elder' (zR_ HO_18) (Kd.R_base ho0) hb); replace HO477 := A0_ (Kd.R_elder' (zR_ HO477) (Kd.R_base ho0) hb); replace HO481 := A0_ (Kd.R_elder' (zR_ HO481) (Kd.R_base ho0) hb); replace BK463 := zK BK463 hb; replace HB := zB HB hb; (try clear hb); (try clear ho0); have hcz49_0 := zc0 BK463; have hcz49_1 := zc1 BK463; have hfz49_0 := kF BK463.out 0; have hfz49_1 := kF BK463.out 1; have p485 : 0 ≤ ((rd t470 x20_1) : Int) := zd; have q485 : (rd t470 x20_1) < (l0_1.length : Int) := zd; obtain ⟨ad485, e485, hx485_0⟩ := tI HR0_1.out (rd t470 x20_1) p485 q485; cases e485; try replace hx485_0 := (HB.out.cell (wL w _ hx485_0)).trans hx485_0; replace p485 := eq_true p485; replace q485 := eq_true q485; have p486 : 0 ≤ ((rd l0_1 (rd t470 x20_1)) : Int) := zd; have q486 : (rd l0_1 (rd t470 x20_1)) < (t464.length : Int) := zd; obtain ⟨ad486, e486, hx486_0⟩ := tI (rR HO_9.out).2.2 (rd l0_1 (rd t470 x20_1)) p486 q486; obtain rfl : ad478 = ad486 := (by injection e486); replace p486 := eq_true p486; replace q486 := eq_true q486; obtain ⟨Ao51, co51, eo51⟩ := rS HO484.out; subst eo51) | ((with_reducible refine gB (b := .append) (xs := #[.tmp 53, .tmp 55]) rfl ?_); at_builtin; refine Kd.S_append (Kd.slice 3 (Kd.int .i64)) (w0 := w) w.heap.size rfl (.tmp 53) (.tmp 55) 26 23 (.slice none 0 0) 24 rfl Try.underlying26 info23 rfl (by decide) (by omega) u10 x10_1 t482 [.slice Ao51 t482.length co51] (fun k_ => some k_ ≠ (.slice (some ad478) t464.length co44 : Value).ownBlock ∧ some k_ ≠ (.slice (some ad473) t470.length co14 : Value).ownBlock ∧ some k_ ≠ (.slice Ao47 t475.length co47 : Value).ownBlock ∧ some k_ ≠ (.slice Ao46 t479.length co46 : Value).ownBlock) (fun k_ => some k_ = (.slice Ao51 t482.length co51 : Value).ownBlock) rfl rfl ?aP (fun k_ hk_ => ((rM (ok' := fun k_ => ((fun k_ => some k_ ≠ (.slice (some ad478) t464.length co44 : Value).ownBlock ∧ some k_ ≠ (.slice (some ad473) t470.length co14 : Value).ownBlock ∧ some k_ ≠ (.slice Ao47 t475.length co47 : Value).ownBlock ∧ some k_ ≠ (.slice Ao46 t479.length co46 : Value).ownBlock)) k_ ∧ some k_ ≠ (u10 : Value).ownBlock) (Kd.R_apart' (HO484.out) (Kd.S_typed HO_10.out) (by decide)) (fun k_ hk => ⟨⟨hk.1.1.1.1.2, ⟨hk.1.1.1.2, ⟨hk.1.1.2, hk.1.2⟩⟩⟩, hk.2⟩))).1 k_ hk_.symm) ?aF ?aO ?aB ?aS ?aL ?_; (case aP => exact Kd.M_row (rM (Kd.R_tight rfl (rM (ok' := fun k_ => ((fun k_ => some k_ ≠ (.slice (some ad478) t464.length co44 : Value).ownBlock ∧ some k_ ≠ (.slice (some ad473) t470.length co14 : Value).ownBlock ∧ some k_ ≠ (.slice Ao47 t475.length co47 : Value).ownBlock ∧ some k_ ≠ (.slice Ao46 t479.length co46 : Value).ownBlock)) k_ ∧ some k_ ≠ (u10 : Value).ownBlock) (Kd.R_apart' (HO484.out) (Kd.S_typed HO_10.out) (by decide)) (fun k_ hk => ⟨⟨hk.1.1.1.1.2, ⟨hk.1.1.1.2, ⟨hk.1.1.2, hk.1.2⟩⟩⟩, hk.2⟩))) (fun _ h_ => h_))); (case aB => exact (zB_ HB)); (case aF => exact (fun k_ hk => ⟨Kd.fresh' (rX (zR_ HO_9)) k_ hk, Kd.fresh' (rX (zR_ HO_18)) k_ hk, Kd.fresh' (rX (zR_ HO477)) k_ hk, Kd.fresh' (rX (zR_ HO481)) k_ hk⟩)); (case aO => exact (zmS HO_10 (fun k_ hk => ⟨⟨hk.1.1.1.1, ⟨hk.1.1.1.2, ⟨hk.1.1.2, hk.1.2⟩⟩⟩, fun e_ => hk.2 e_⟩))); (case aS => exact (bZ (zB_ HB))); (case aL => have := LMc42.out; omega); intro v494 w50 ho hb hg hat; rw [← Ny493.out] at ho; replace HO_9 := A0_ (Kd.R_over' (zR_ HO_9) (Kd.S_typed (zS_ HO_10)) (by decide) hg); replace HO_18 := A0_ (Kd.R_over' (zR_ HO_18) (Kd.S_typed (zS_ HO_10)) (by decide) hg); replace BK463 := A0_ (blk_grown (g := gb463) (o := .cells #[.slice A0_0 l0_0.length c0_0, .slice (some ad485) l0_1.length c0_1] 25 (0, 0)) (zK_ BK463) hg (Kd.S_ne HO_10.out BK463.out (by decide))); replace HO477 := A0_ (Kd.R_over' (zR_ HO477) (Kd.S_typed (zS_ HO_10)) (by decide) hg); replace HO481 := A0_ (Kd.R_over' (zR_ HO481) (Kd.S_typed (zS_ HO_10)) (by decide) hg); replace HB := A0_ (hb); have HO495 := A0_ (ho); clear HO_10 HO484 ho hb hg hat))
              go_roundg k1
              case measure => have := HK1.out; omega
              case rel => exact ⟨(y493), (wrap64 (x20_1 + 1)), zt, H', ⟨by have := HK1.out; omega⟩, ⟨zmR HO_9 (fun _ hk => hk.1.1.1)⟩, ⟨zmS HO495 (fun _ hk => ⟨hk.1, hk.2.1⟩)⟩, ⟨zmR HO_18 (fun _ hk => hk.1.1.1)⟩, ⟨zK_ BK463⟩, ⟨zB_ HB⟩⟩
             rw [if_neg c42] at H
             exact absurd H (by simp)
            rw [if_neg c27] at H
            exact absurd H (by simp)
           rw [if_neg c26] at H
           exact absurd H (by simp)
          rw [if_neg c25] at H
          exact absurd H (by simp)
         rw [if_neg c22] at H
         have c22b0 : ((rd t464 (rd t470 x20_1)) == a2) = false := beq_eq_false_iff_ne.mpr c22
         have c22b1 : ((rd t464 (rd t470 x20_1)) != a2) = true := bne_iff_ne.mpr c22
         by_cases c52 : (rd t470 x20_1) < (l0_1.length : Int)
         ·rw [if_pos c52] at H
          have c52b0 := dT c52; clear c52
          by_cases c53 : 0 ≤ (rd l0_1 (rd t470 x20_1))
          ·rw [if_pos c53] at H
           have c53b0 := dT c53; clear c53
           by_cases c54 : (rd l0_1 (rd t470 x20_1)) < (t464.length : Int)
           ·rw [if_pos c54] at H
            have c54b0 := dT c54; clear c54
            by_cases c55 : (rd t464 (rd l0_1 (rd t470 x20_1))) = a2
            ·rw [if_pos c55] at H
             have c55b0 : ((rd t464 (rd l0_1 (rd t470 x20_1))) == a2) = true := beq_iff_eq.mpr c55
             have c55b1 : ((rd t464 (rd l0_1 (rd t470 x20_1))) != a2) = false := bne_eq_false_iff_eq.mpr c55
             clear c55; obtain ⟨t498, A56, H⟩ := zbind H
             by_cases c57 : x10_1.length < 5864062014805
             ·rw [if_pos c57] at H
              have LMc57 := A0_ c57; clear c57
              obtain ⟨y501, hy501⟩ : ∃ y_ : List (List Int), y_ = (x10_1 ++ [t498]) := ⟨_, rfl⟩
              replace H : (impl_conjAt.l0 k1 l1 a2 l3 t464 y501 t470 (t470.length : Int) (wrap64 (x20_1 + 1)) l0_0 l0_1) = some r := zH hy501 H
              have Ny501 := A0_ hy501; clear hy501; have H' := A0_ H; clear H
              have p473 : 0 ≤ (x20_1 : Int) := zd
              have q473 : x20_1 < (t470.length : Int) := zd
              obtain ⟨ad473, e473, hx473_0⟩ := tI (rR HO_18.out).2.2 x20_1 p473 q473
              cases e473
              replace p473 := eq_true p473; replace q473 := eq_true q473
              have p474 : 0 ≤ (x20_1 : Int) := zd
              have q474 : x20_1 < (l1.length : Int) := zd
              obtain ⟨ad474, A474_0, c474_0, e474, hx474_0, hl474_0, hi474_0⟩ := at_L2 HR1.out x20_1 p474 q474
              cases e474
              try replace hx474_0 := (HB.out.cell (wL w _ hx474_0)).trans hx474_0
              have HR474_0 := A0_ hi474_0; have HC474_0 := A0_ hl474_0; clear hi474_0 hl474_0; replace p474 := eq_true p474; replace q474 := eq_true q474
              go_wp2_with (first | ((with_reducible refine gC (f := 106) rfl ?_); refine zJ (some 29) Try.func106 #[.slice A474_0 (rd_L2 l1 x20_1).length c474_0] ?_; (with_reducible refine (slices_Clone_int_int.calls _ _ (rd_L2 l1 x20_1) t475 _ ?side1 ?side2 A19.out).mono ?_); (case side1 => exact zC HR474_0 HB); (case side2 => exact HC474_0.out); rintro e w58 ⟨v476, rfl, ho0, hb⟩; refine ⟨_, rfl, ?_⟩; replace HO_10 := A0_ (Kd.S_elder' (zS_ HO_10) (Kd.R_base ho0) hb); have HO477 := A0_ (rL (Kd.R_new' (Kd.R_new' ho0 (rX (zR_ HO_9))) (rX (zR_ HO_18))) (bZ (zB_ HB))); replace HO_9 := A0_ (Kd.R_elder' (zR_ HO_9) (Kd.R_base ho0) hb); replace HO_18 := A0_ (Kd.R_elder' (zR_ HO_18) (Kd.R_base ho0) hb); replace BK463 := zK BK463 hb; replace HB := zB HB hb; (try clear hb); (try clear ho0); obtain ⟨Ao59, co59, eo59⟩ := rS HO_9.out; subst eo59; have p478 : 0 ≤ ((rd t470 x20_1) : Int) := zd; have q478 : (rd t470 x20_1) < (t464.length : Int) := zd; obtain ⟨ad478, e478, hx478_0⟩ := tI (rR HO_9.out).2.2 (rd t470 x20_1) p478 q478; cases e478; replace p478 := eq_true p478; replace q478 := eq_true q478; have hcz60_0 := zc0 BK463; have hcz60_1 := zc1 BK463; have hfz60_0 := kF BK463.out 0; have hfz60_1 := kF BK463.out 1; have p496 : 0 ≤ ((rd t470 x20_1) : Int) := zd; have q496 : (rd t470 x20_1) < (l0_1.length : Int) := zd; obtain ⟨ad496, e496, hx496_0⟩ := tI HR0_1.out (rd t470 x20_1) p496 q496; cases e496; try replace hx496_0 := (HB.out.cell (wL w _ hx496_0)).trans hx496_0; replace p496 := eq_true p496; replace q496 := eq_true q496; have p497 : 0 ≤ ((rd l0_1 (rd t470 x20_1)) : Int) := zd; have q497 : (rd l0_1 (rd t470 x20_1)) < (t464.length : Int) := zd; obtain ⟨ad497, e497, hx497_0⟩ := tI (rR HO_9.out).2.2 (rd l0_1 (rd t470 x20_1)) p497 q497; obtain rfl : ad478 = ad497 := (by injection e497); replace p497 := eq_true p497; replace q497 := eq_true q497; obtain ⟨Ao61, co61, eo61⟩ := rS HO477.out; subst eo61) | ((with_reducible refine gC (f := 69) rfl ?_); refine zJ (some 52) Try.func69 #[.slice Ao61 t475.length co61, .slice A3 l3.length c3] ?_; (with_reducible refine (impl_mul.calls k1 _ _ t475 _ _ l3 t498 _ ?side1 ?side2 ?side3 ?side4 A56.out).mono ?_); (case side1 => exact zD HO477); (case side2 => exact (rR HO477.out).2.1); (case side3 => exact zC HR3 HB); (case side4 => exact HC3.out); rintro e w62 ⟨v499, rfl, ho0, hb⟩; refine ⟨_, rfl, ?_⟩; replace HO_10 := A0_ (Kd.S_elder' (zS_ HO_10) (Kd.R_base ho0) hb); have HO500 := A0_ (rL (Kd.R_new' (Kd.R_new' (Kd.R_new' ho0 (rX (zR_ HO_9))) (rX (zR_ HO_18))) (rX (zR_ HO477))) (bZ (zB_ HB))); replace HO_9 := A0_ (Kd.R_elder' (zR_ HO_9) (Kd.R_base ho0) hb); replace HO_18 := A0_ (Kd.R_elder' (zR_ HO_18) (Kd.R_base ho0) hb); replace HO477 := A0_ (Kd.R_elder' (zR_ HO477) (Kd.R_base ho0) hb); replace BK463 := zK BK463 hb; replace HB := zB HB hb; (try clear hb); (try clear ho0); obtain ⟨Ao64, co64, eo64⟩ := rS HO500.out; subst eo64) | ((with_reducible refine gB (b := .append) (xs := #[.tmp 53, .tmp 55]) rfl ?_); at_builtin; refine Kd.S_append (Kd.slice 3 (Kd.int .i64)) (w0 := w) w.heap.size rfl (.tmp 53) (.tmp 55) 26 23 (.slice none 0 0) 24 rfl Try.underlying26 info23 rfl (by decide) (by omega) u10 x10_1 t498 [.slice Ao64 t498.length co64] (fun k_ => some k_ ≠ (.slice (some ad478) t464.length co59 : Value).ownBlock ∧ some k_ ≠ (.slice (some ad473) t470.length co14 : Value).ownBlock ∧ some k_ ≠ (.slice Ao61 t475.length co61 : Value).ownBlock) (fun k_ => some k_ = (.slice Ao64 t498.length co64 : Value).ownBlock) rfl rfl ?aP (fun k_ hk_ => ((rM (ok' := fun k_ => ((fun k_ => some k_ ≠ (.slice (some ad478) t464.length co59 : Value).ownBlock ∧ some k_ ≠ (.slice (some ad473) t470.length co14 : Value).ownBlock ∧ some k_ ≠ (.slice Ao61 t475.length co61 : Value).ownBlock)) k_ ∧ some k_ ≠ (u10 : Value).ownBlock) (Kd.R_apart' (HO500.out) (Kd.S_typed HO_10.out) (by decide)) (fun k_ hk => ⟨⟨hk.1.1.1.2, ⟨hk.1.1.2, hk.1.2⟩⟩, hk.2⟩))).1 k_ hk_.symm) ?aF ?aO ?aB ?aS ?aL ?_; (case aP => exact Kd.M_row (rM (Kd.R_tight rfl (rM (ok' := fun k_ => ((fun k_ => some k_ ≠ (.slice (some ad478) t464.length co59 : Value).ownBlock ∧ some k_ ≠ (.slice (some ad473) t470.length co14 : Value).ownBlock ∧ some k_ ≠ (.slice Ao61 t475.length co61 : Value).ownBlock)) k_ ∧ some k_ ≠ (u10 : Value).ownBlock) (Kd.R_apart' (HO500.out) (Kd.S_typed HO_10.out) (by decide)) (fun k_ hk => ⟨⟨hk.1.1.1.2, ⟨hk.1.1.2, hk.1.2⟩⟩, hk.2⟩))) (fun _ h_ => h_))); (case aB => exact (zB_ HB)); (case aF => exact (fun k_ hk => ⟨Kd.fresh' (rX (zR_ HO_9)) k_ hk, Kd.fresh' (rX (zR_ HO_18)) k_ hk, Kd.fresh' (rX (zR_ HO477)) k_ hk⟩)); (case aO => exact (zmS HO_10 (fun k_ hk => ⟨⟨hk.1.1.1, ⟨hk.1.1.2, hk.1.2⟩⟩, fun e_ => hk.2 e_⟩))); (case aS => exact (bZ (zB_ HB))); (case aL => have := LMc57.out; omega); intro v502 w63 ho hb hg hat; rw [← Ny501.out] at ho; replace HO_9 := A0_ (Kd.R_over' (zR_ HO_9) (Kd.S_typed (zS_ HO_10)) (by decide) hg); replace HO_18 := A0_ (Kd.R_over' (zR_ HO_18) (Kd.S_typed (zS_ HO_10)) (by decide) hg); replace BK463 := A0_ (blk_grown (g := gb463) (o := .cells #[.slice A0_0 l0_0.length c0_0, .slice (some ad496) l0_1.length c0_1] 25 (0, 0)) (zK_ BK463) hg (Kd.S_ne HO_10.out BK463.out (by decide))); replace HO477 := A0_ (Kd.R_over' (zR_ HO477) (Kd.S_typed (zS_ HO_10)) (by decide) hg); replace HB := A0_ (hb); have HO503 := A0_ (ho); clear HO_10 HO500 ho hb hg hat))
              go_roundg k1
              case measure => have := HK1.out; omega
              case rel => exact ⟨(y501), (wrap64 (x20_1 + 1)), zt, H', ⟨by have := HK1.out; omega⟩, ⟨zmR HO_9 (fun _ hk => hk.1.1)⟩, ⟨zmS HO503 (fun _ hk => ⟨hk.1, hk.2.1⟩)⟩, ⟨zmR HO_18 (fun _ hk => hk.1.1)⟩, ⟨zK_ BK463⟩, ⟨zB_ HB⟩⟩
             rw [if_neg c57] at H
             exact absurd H (by simp)
            rw [if_neg c55] at H
            have c55b0 : ((rd t464 (rd l0_1 (rd t470 x20_1))) == a2) = false := beq_eq_false_iff_ne.mpr c55
            have c55b1 : ((rd t464 (rd l0_1 (rd t470 x20_1))) != a2) = true := bne_iff_ne.mpr c55
            by_cases c65 : x10_1.length < 5864062014805
            ·rw [if_pos c65] at H
             have LMc65 := A0_ c65; clear c65
             obtain ⟨y504, hy504⟩ : ∃ y_ : List (List Int), y_ = (x10_1 ++ [t475]) := ⟨_, rfl⟩
             replace H : (impl_conjAt.l0 k1 l1 a2 l3 t464 y504 t470 (t470.length : Int) (wrap64 (x20_1 + 1)) l0_0 l0_1) = some r := zH hy504 H
             have Ny504 := A0_ hy504; clear hy504; have H' := A0_ H; clear H
             have p473 : 0 ≤ (x20_1 : Int) := zd
             have q473 : x20_1 < (t470.length : Int) := zd
             obtain ⟨ad473, e473, hx473_0⟩ := tI (rR HO_18.out).2.2 x20_1 p473 q473
             cases e473
             replace p473 := eq_true p473; replace q473 := eq_true q473
             have p474 : 0 ≤ (x20_1 : Int) := zd
             have q474 : x20_1 < (l1.length : Int) := zd
             obtain ⟨ad474, A474_0, c474_0, e474, hx474_0, hl474_0, hi474_0⟩ := at_L2 HR1.out x20_1 p474 q474
             cases e474
             try replace hx474_0 := (HB.out.cell (wL w _ hx474_0)).trans hx474_0
             have HR474_0 := A0_ hi474_0; have HC474_0 := A0_ hl474_0; clear hi474_0 hl474_0; replace p474 := eq_true p474; replace q474 := eq_true q474
             go_wp2_with (first | ((with_reducible refine gC (f := 106) rfl ?_); refine zJ (some 29) Try.func106 #[.slice A474_0 (rd_L2 l1 x20_1).length c474_0] ?_; (with_reducible refine (slices_Clone_int_int.calls _ _ (rd_L2 l1 x20_1) t475 _ ?side1 ?side2 A19.out).mono ?_); (case side1 => exact zC HR474_0 HB); (case side2 => exact HC474_0.out); rintro e w66 ⟨v476, rfl, ho0, hb⟩; refine ⟨_, rfl, ?_⟩; replace HO_10 := A0_ (Kd.S_elder' (zS_ HO_10) (Kd.R_base ho0) hb); have HO477 := A0_ (rL (Kd.R_new' (Kd.R_new' ho0 (rX (zR_ HO_9))) (rX (zR_ HO_18))) (bZ (zB_ HB))); replace HO_9 := A0_ (Kd.R_elder' (zR_ HO_9) (Kd.R_base ho0) hb); replace HO_18 := A0_ (Kd.R_elder' (zR_ HO_18) (Kd.R_base ho0) hb); replace BK463 := zK BK463 hb; replace HB := zB HB hb; (try clear hb); (try clear ho0); obtain ⟨Ao67, co67, eo67⟩ := rS HO_9.out; subst eo67; have p478 : 0 ≤ ((rd t470 x20_1) : Int) := zd; have q478 : (rd t470 x20_1) < (t464.length : Int) := zd; obtain ⟨ad478, e478, hx478_0⟩ := tI (rR HO_9.out).2.2 (rd t470 x20_1) p478 q478; cases e478; replace p478 := eq_true p478; replace q478 := eq_true q478; have hcz68_0 := zc0 BK463; have hcz68_1 := zc1 BK463; have hfz68_0 := kF BK463.out 0; have hfz68_1 := kF BK463.out 1; have p496 : 0 ≤ ((rd t470 x20_1) : Int) := zd; have q496 : (rd t470 x20_1) < (l0_1.length : Int) := zd; obtain ⟨ad496, e496, hx496_0⟩ := tI HR0_1.out (rd t470 x20_1) p496 q496; cases e496; try replace hx496_0 := (HB.out.cell (wL w _ hx496_0)).trans hx496_0; replace p496 := eq_true p496; replace q496 := eq_true q496; have p497 : 0 ≤ ((rd l0_1 (rd t470 x20_1)) : Int) := zd; have q497 : (rd l0_1 (rd t470 x20_1)) < (t464.length : Int) := zd; obtain ⟨ad497, e497, hx497_0⟩ := tI (rR HO_9.out).2.2 (rd l0_1 (rd t470 x20_1)) p497 q497; obtain rfl : ad478 = ad497 := (by injection e497); replace p497 := eq_true p497; replace q497 := eq_true q497; obtain ⟨Ao70, co70, eo70⟩ := rS HO477.out; subst eo70) | ((with_reducible refine gB (b := .append) (xs := #[.tmp 53, .tmp 55]) rfl ?_); at_builtin; refine Kd.S_append (Kd.slice 3 (Kd.int .i64)) (w0 := w) w.heap.size rfl (.tmp 53) (.tmp 55) 26 23 (.slice none 0 0) 24 rfl Try.underlying26 info23 rfl (by decide) (by omega) u10 x10_1 t475 [.slice Ao70 t475.length co70] (fun k_ => some k_ ≠ (.slice (some ad478) t464.length co67 : Value).ownBlock ∧ some k_ ≠ (.slice (some ad473) t470.length co14 : Value).ownBlock) (fun k_ => some k_ = (.slice Ao70 t475.length co70 : Value).ownBlock) rfl rfl ?aP (fun k_ hk_ => ((rM (ok' := fun k_ => ((fun k_ => some k_ ≠ (.slice (some ad478) t464.length co67 : Value).ownBlock ∧ some k_ ≠ (.slice (some ad473) t470.length co14 : Value).ownBlock)) k_ ∧ some k_ ≠ (u10 : Value).ownBlock) (Kd.R_apart' (HO477.out) (Kd.S_typed HO_10.out) (by decide)) (fun k_ hk => ⟨⟨hk.1.1.2, hk.1.2⟩, hk.2⟩))).1 k_ hk_.symm) ?aF ?aO ?aB ?aS ?aL ?_; (case aP => exact Kd.M_row (rM (Kd.R_tight rfl (rM (ok' := fun k_ => ((fun k_ => some k_ ≠ (.slice (some ad478) t464.length co67 : Value).ownBlock ∧ some k_ ≠ (.slice (some ad473) t470.length co14 : Value).ownBlock)) k_ ∧ some k_ ≠ (u10 : Value).ownBlock) (Kd.R_apart' (HO477.out) (Kd.S_typed HO_10.out) (by decide)) (fun k_ hk => ⟨⟨hk.1.1.2, hk.1.2⟩, hk.2⟩))) (fun _ h_ => h_))); (case aB => exact (zB_ HB)); (case aF => exact (fun k_ hk => ⟨Kd.fresh' (rX (zR_ HO_9)) k_ hk, Kd.fresh' (rX (zR_ HO_18)) k_ hk⟩)); (case aO => exact (zmS HO_10 (fun k_ hk => ⟨⟨hk.1.1, hk.1.2⟩, fun e_ => hk.2 e_⟩))); (case aS => exact (bZ (zB_ HB))); (case aL => have := LMc65.out; omega); intro v505 w69 ho hb hg hat; rw [← Ny504.out] at ho; replace HO_9 := A0_ (Kd.R_over' (zR_ HO_9) (Kd.S_typed (zS_ HO_10)) (by decide) hg); replace HO_18 := A0_ (Kd.R_over' (zR_ HO_18) (Kd.S_typed (zS_ HO_10)) (by decide) hg); replace BK463 := A0_ (blk_grown (g := gb463) (o := .cells #[.slice A0_0 l0_0.length c0_0, .slice (some ad496) l0_1.length c0_1] 25 (0, 0)) (zK_ BK463) hg (Kd.S_ne HO_10.out BK463.out (by decide))); replace HB := A0_ (hb); have HO506 := A0_ (ho); clear HO_10 HO477 ho hb hg hat))
             go_roundg k1
             case measure => have := HK1.out; omega
             case rel => exact ⟨(y504), (wrap64 (x20_1 + 1)), zt, H', ⟨by have := HK1.out; omega⟩, ⟨zmR HO_9 (fun _ hk => hk.1)⟩, ⟨zS_ HO506⟩, ⟨zmR HO_18 (fun _ hk => hk.1)⟩, ⟨zK_ BK463⟩, ⟨zB_ HB⟩⟩
            rw [if_neg c65] at H
            exact absurd H (by simp)
           rw [if_neg c54] at H
           exact absurd H (by simp)
          rw [if_neg c53] at H
          exact absurd H (by simp)
         rw [if_neg c52] at H
         exact absurd H (by simp)
        rw [if_neg c21] at H
        exact absurd H (by simp)
       rw [if_neg c20] at H
       exact absurd H (by simp)
      rw [if_neg c18] at H
      exact absurd H (by simp)
     rw [if_neg c17] at H
     exact absurd H (by simp)
    rw [if_neg c16] at H
    exact absurd H (by simp)
   rw [if_neg c15] at H; have c15b0 := dF c15; clear c15; obtain rfl := sI H
   go_wp2
   go_ret
   exact ⟨_, by first | rfl | (simp [*] <;> rfl), zmS HO_10 (fun _ hk => trivial), zB_ HB⟩

/-! ### impl_copyLists: function 64 -/
def impl_copyLists.l0 : Nat → List (List Int) → List (List Int) → Int → Int → Option ((List (List Int)))
  | 0, _, _, _, _ => none
  | k + 1, x3, x7, x8, x9 => if x9 < x8 then (if 0 ≤ x9 then (if x9 < (x7.length : Int) then ((slices_Clone_int_int.f (rd_L2 x7 x9)).bind fun t511 => (if x3.length < 5864062014805 then (impl_copyLists.l0 k (x3 ++ [t511]) x7 x8 (wrap64 (x9 + 1))) else (none))) else (none)) else (none)) else (some x3)
def impl_copyLists.f (k : Nat) (l0 : List (List Int)) : Option ((List (List Int))) := impl_copyLists.l0 k (([] : List (List Int))) l0 (l0.length : Int) 0
set_option maxHeartbeats 8000000 in
set_option maxRecDepth 100000 in
theorem impl_copyLists.calls (k : Nat) (A0 : Option Addr) (c0 : Nat) (l0 : List (List Int)) (r : List (List Int)) (w : World) (hr0 : Kd.C (Kd.slice 3 (Kd.int .i64)) w A0 l0.length l0) (hc0 : l0.length ≤ c0) (h : impl_copyLists.f k l0 = some r) :
    Calls Try.prog 64 #[.slice A0 l0.length c0] w fun e w' => ∃ v0_ : Value, e = .returned (v0_) ∧ Kd.S (Kd.slice 3 (Kd.int .i64)) 23 w' w.heap.size (fun _ => True) v0_ r ∧ Below w.heap.size w w' := by
 have HR0 := A0_ hr0; have HC0 := A0_ hc0; clear hr0 hc0
 have HB := A0_ (Below.refl w.heap.size w)
 have H : (impl_copyLists.l0 k (([] : List (List Int))) l0 (l0.length : Int) 0) = some r := h
 clear h
 obtain ⟨y507, hy507⟩ : ∃ y_ : List (List Int), y_ = (([] : List (List Int))) := ⟨_, rfl⟩
 replace H : (impl_copyLists.l0 k y507 l0 (l0.length : Int) 0) = some r := zH hy507 H
 have Ny507 := A0_ hy507; clear hy507; have H' := A0_ H; clear H
 go_enter Try.func64, Try.ntmps64
 go_wp2_with (first | ((with_reducible refine gD (N := 6) rfl ?_); refine Kd.S_lit (Kd.slice 3 (Kd.int .i64)) _ 23 ?hg (N := 6) ?hd (xs := ([] : List (List Int))) (inner := []) (ok := fun _ => True) (okp := fun _ => True) ?hr ?hp (fun _ hk => hk) trivial (Below.refl _ _) (Nat.le_refl _) (by simp) ?_; (case hd => rfl); (case hg => rfl); (case hr => first | (go_simp; done) | (go_simp; rfl)); (case hp => exact (Reps.none _ _)); intro v508 w2 ho3 hb hg_ hnew_; clear hg_ hnew_; (first | rw [← Ny507.out] at ho3 | (simp only [Int.reduceToNat] at ho3; rw [← Ny507.out] at ho3)); have HO509 := A0_ (Kd.S_lower ho3 (bZ (zB_ HB))); replace HB := zB HB hb; clear hb ho3))
 go_loopg [3, 9] k (fun kq v3 v9 w' => ∃ (x3_1 : List (List Int)) (x9_1 : Int), v9 = .int .i64 x9_1 ∧ Aside0 (impl_copyLists.l0 kq x3_1 l0 (l0.length : Int) x9_1 = some r) ∧ Aside0 (kq ≤ k) ∧ Aside0 (Kd.S (Kd.slice 3 (Kd.int .i64)) 23 w' w.heap.size (fun _ => True) v3 x3_1) ∧ Aside0 (Below w.heap.size w w'))
 case atStart => exact ⟨(y507), (0), zt, H', ⟨Nat.le_refl _⟩, ⟨zS_ HO509⟩, ⟨zB_ HB⟩⟩
 case round =>
  clear H'; (try clear p2); obtain ⟨x3_1, x9_1, rfl, HA, HK1, HO_3, HB⟩ := hrel
  cases gk with
  | zero => exact absurd HA.out (by simp [impl_copyLists.l0])
  | succ k1 =>
   have H := HA.out; clear HA; simp only [impl_copyLists.l0] at H
   by_cases c4 : x9_1 < (l0.length : Int)
   ·rw [if_pos c4] at H
    have c4b0 := dT c4; clear c4
    by_cases c5 : 0 ≤ x9_1
    ·rw [if_pos c5] at H
     have c5b0 := dT c5; clear c5
     by_cases c6 : x9_1 < (l0.length : Int)
     ·rw [if_pos c6] at H
      have c6b0 := dT c6; clear c6; obtain ⟨t511, A7, H⟩ := zbind H
      by_cases c8 : x3_1.length < 5864062014805
      ·rw [if_pos c8] at H
       have LMc8 := A0_ c8; clear c8
       obtain ⟨y514, hy514⟩ : ∃ y_ : List (List Int), y_ = (x3_1 ++ [t511]) := ⟨_, rfl⟩
       replace H : (impl_copyLists.l0 k1 y514 l0 (l0.length : Int) (wrap64 (x9_1 + 1))) = some r := zH hy514 H
       have Ny514 := A0_ hy514; clear hy514; have H' := A0_ H; clear H
       have p510 : 0 ≤ (x9_1 : Int) := zd
       have q510 : x9_1 < (l0.length : Int) := zd
       obtain ⟨ad510, A510_0, c510_0, e510, hx510_0, hl510_0, hi510_0⟩ := at_L2 HR0.out x9_1 p510 q510
       cases e510
       try replace hx510_0 := (HB.out.cell (wL w _ hx510_0)).trans hx510_0
       have HR510_0 := A0_ hi510_0; have HC510_0 := A0_ hl510_0; clear hi510_0 hl510_0; replace p510 := eq_true p510; replace q510 := eq_true q510
       go_wp2_with (first | ((with_reducible refine gC (f := 106) rfl ?_); refine zJ (some 15) Try.func106 #[.slice A510_0 (rd_L2 l0 x9_1).length c510_0] ?_; (with_reducible refine (slices_Clone_int_int.calls _ _ (rd_L2 l0 x9_1) t511 _ ?side1 ?side2 A7.out).mono ?_); (case side1 => exact zC HR510_0 HB); (case side2 => exact HC510_0.out); rintro e w9 ⟨v512, rfl, ho0, hb⟩; refine ⟨_, rfl, ?_⟩; replace HO_3 := A0_ (Kd.S_elder' (zS_ HO_3) (Kd.R_base ho0) hb); have HO513 := A0_ (rL ho0 (bZ (zB_ HB))); replace HB := zB HB hb; (try clear hb); (try clear ho0); obtain ⟨Ao11, co11, eo11⟩ := rS HO513.out; subst eo11) | ((with_reducible refine gB (b := .append) (xs := #[.tmp 13, .tmp 16]) rfl ?_); at_builtin; refine Kd.S_append (Kd.slice 3 (Kd.int .i64)) (w0 := w) w.heap.size rfl (.tmp 13) (.tmp 16) 26 23 (.slice none 0 0) 24 rfl Try.underlying26 info23 rfl (by decide) (by omega) u3 x3_1 t511 [.slice Ao11 t511.length co11] (fun _ => True) (fun k_ => some k_ = (.slice Ao11 t511.length co11 : Value).ownBlock) rfl rfl ?aP (fun k_ hk_ => ((rM (ok' := fun k_ => ((fun _ => True)) k_ ∧ some k_ ≠ (u3 : Value).ownBlock) (Kd.R_apart' (HO513.out) (Kd.S_typed HO_3.out) (by decide)) (fun k_ hk => ⟨trivial, hk.2⟩))).1 k_ hk_.symm) ?aF ?aO ?aB ?aS ?aL ?_; (case aP => exact Kd.M_row (rM (Kd.R_tight rfl (rM (ok' := fun k_ => ((fun _ => True)) k_ ∧ some k_ ≠ (u3 : Value).ownBlock) (Kd.R_apart' (HO513.out) (Kd.S_typed HO_3.out) (by decide)) (fun k_ hk => ⟨trivial, hk.2⟩))) (fun _ h_ => h_))); (case aB => exact (zB_ HB)); (case aF => exact (fun _ _ => trivial)); (case aO => exact (zmS HO_3 (fun k_ hk => ⟨trivial, fun e_ => hk.2 e_⟩))); (case aS => exact (bZ (zB_ HB))); (case aL => have := LMc8.out; omega); intro v515 w10 ho hb hg hat; rw [← Ny514.out] at ho; replace HB := A0_ (hb); have HO516 := A0_ (ho); clear HO_3 HO513 ho hb hg hat))
       go_roundg k1
       case measure => have := HK1.out; omega
       case rel => exact ⟨(y514), (wrap64 (x9_1 + 1)), zt, H', ⟨by have := HK1.out; omega⟩, ⟨zS_ HO516⟩, ⟨zB_ HB⟩⟩
      rw [if_neg c8] at H
      exact absurd H (by simp)
     rw [if_neg c6] at H
     exact absurd H (by simp)
    rw [if_neg c5] at H
    exact absurd H (by simp)
   rw [if_neg c4] at H; have c4b0 := dF c4; clear c4; obtain rfl := sI H
   go_wp2
   go_ret
   exact ⟨_, by first | rfl | (simp [*] <;> rfl), zS_ HO_3, zB_ HB⟩

end Go.Proofs.Ytmegggomhjgehaa.PFnCoverWhole
