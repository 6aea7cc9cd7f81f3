-- Made by a program of this session (wip/tools) out of the loaded program; not trusted: Lean checks it.
import Derived.Test.YtmcgkckdnelcdaaPFnExactCoverConjx0
import Derived.Test.YtmcgkckdnelcdaaPFnExactCoverConjx1
import Derived.Test.YtmcgkckdnelcdaaPFnExactCoverConjx2
import Derived.Test.YtmcgkckdnelcdaaPFnExactCoverConjx5
import Derived.Test.YtmcgkckdnelcdaaPFnExactCoverConjx9
-- packed
namespace Go.Proofs.Ytmcgkckdnelcdaa.PFnExactCoverConj
open Go.RowKit Go.Proofs.YtmcgkckdnelcdaaW.PrintWords Go.Proofs.YtmcgkckdnelcdaaW.PrintLast Go.Proofs.YtmcgkckdnelcdaaW.PrintMore
attribute [local go_sem] max2_int min2_int max_two min_two max_three min_three max_four min_four   -- for this text's walks alone
set_option linter.unusedVariables false
set_option linter.unusedSimpArgs false

/-! ### laws_FnExactCoverConj: function 12 -/
mutual
def laws_FnExactCoverConj.j0 : Nat → Int → List (List Int) → Int → List Int → List (List Int) → Bool → List (List Int) → List Int → List (List Int) → Bool → Bool → List Int → List Int → List Int → List Int → Option (Bool)
  | 0, _, _, _, _, _, _, _, _, _, _, _, _, _, _, _ => none
  | k + 1, x1, x2, x3, x4, x12, x13, x15, x16, x17, x18, x72, x451000, x451001, x476000, x476001 => if x72 = true then (some false) else ((laws_toMap.f k x451000 x451001).bind fun bt487 => ((laws_eqMap.f k x476000 x476001 bt487.1 bt487.2).bind fun t493 => (if t493 = true then ((laws_toIntSS.f k x2).bind fun t494 => ((laws_eqIntSS.f k x15 t494).bind fun t497 => (if t497 = true then ((laws_toIntS.f k x4).bind fun t498 => ((laws_eqIntS.f k x16 t498).bind fun t501 => (if t501 = true then ((laws_markMap.f k x476000 x476001 1).bind fun bt502 => ((laws_markIntSS.f k x15 bt502.1).bind fun bt505 => ((laws_markIntS.f k x16 bt505.1).bind fun bt506 => (if bt506.1 < 0 then (laws_FnExactCoverConj.j1 k x1 x2 x3 x4 x12 x13 x17 true x451000 x451001) else ((laws_eqIntSS.f k x17 x12).bind fun t508 => (if t508 = true then (laws_FnExactCoverConj.j1 k x1 x2 x3 x4 x12 x13 x17 (x18 != x13) x451000 x451001) else (laws_FnExactCoverConj.j1 k x1 x2 x3 x4 x12 x13 x17 true x451000 x451001))))))) else (some false)))) else (some false)))) else (some false))))
def laws_FnExactCoverConj.j1 : Nat → Int → List (List Int) → Int → List Int → List (List Int) → Bool → List (List Int) → Bool → List Int → List Int → Option (Bool)
  | 0, _, _, _, _, _, _, _, _, _, _ => none
  | k + 1, x1, x2, x3, x4, x12, x13, x17, x109, x451000, x451001 => if x109 = true then (some false) else ((laws_markIntSS.f k x17 1).bind fun bt509 => ((laws_heldIntSS.f k bt509.2 1).bind fun t510 => (if t510 < 0 then (some false) else (if t510 = bt509.1 then ((laws_toMap.f k x451000 x451001).bind fun bt511 => ((laws_toIntSS.f k x2).bind fun t517 => ((laws_toIntS.f k x4).bind fun t520 => ((impl_CoverConj.f k bt511.1 bt511.2 x1 t517 x3 t520).bind fun bt523 => ((laws_eqIntSS.f k bt523.1 x12).bind fun t527 => (if t527 = true then (laws_FnExactCoverConj.j2 k bt509.2 bt509.1 (bt523.2 != x13)) else (laws_FnExactCoverConj.j2 k bt509.2 bt509.1 true))))))) else (some false)))))
def laws_FnExactCoverConj.j2 : Nat → List (List Int) → Int → Bool → Option (Bool)
  | 0, _, _, _ => none
  | k + 1, x17, x20, x141 => if x141 = true then (some false) else ((laws_heldIntSS.f k x17 1).bind fun t528 => (if t528 < 0 then (some false) else (if t528 = x20 then (some true) else (some false))))
end
def laws_FnExactCoverConj.f (k : Nat) (l0_0 : List Int) (l0_1 : List Int) (a1 : Int) (l2 : List (List Int)) (a3 : Int) (l4 : List Int) : Option (Bool) := if (l4.length : Int) > 1048576 then (some true) else ((laws_szMap.f l0_0 l0_1 1048576).bind fun t451 => (if t451 < 0 then (some true) else ((laws_szIntSS.f k l2 t451).bind fun t452 => (if t452 < 0 then (some true) else ((laws_toMap.f k l0_0 l0_1).bind fun bt453 => ((laws_toIntSS.f k l2).bind fun t459 => ((laws_toIntS.f k l4).bind fun t462 => ((spec_CoverConj.f k bt453.1 bt453.2 a1 t459 a3 t462).bind fun bt465 => ((laws_toMap.f k l0_0 l0_1).bind fun bt469 => ((laws_toIntSS.f k l2).bind fun t476 => ((laws_toIntS.f k l4).bind fun t479 => ((impl_CoverConj.f k bt469.1 bt469.2 a1 t476 a3 t479).bind fun bt482 => ((laws_eqIntSS.f k bt482.1 bt465.1).bind fun t486 => (if t486 = true then (laws_FnExactCoverConj.j0 k a1 l2 a3 l4 bt465.1 bt465.2 t476 t479 bt482.1 bt482.2 (bt482.2 != bt465.2) l0_0 l0_1 bt469.1 bt469.2) else (laws_FnExactCoverConj.j0 k a1 l2 a3 l4 bt465.1 bt465.2 t476 t479 bt482.1 bt482.2 true l0_0 l0_1 bt469.1 bt469.2)))))))))))))))
theorem laws_heldIntSS.calls2 {n : Nat} {l0 : List (List Int)} (hn : l0.length = n) (k : Nat) (A0 : Option Addr) (c0 : Nat) (l1 : List (List Int)) (a1 : Int) (r : Int) (w : World) (hr0 : Kd.C (Kd.slice 3 (Kd.int .i64)) w A0 l0.length l0) (hc0 : n ≤ c0) (h : laws_heldIntSS.f k l0 a1 = some r) :
    Calls Try.prog 27 #[.slice A0 n c0, .int .i64 a1] w fun e w' => e = .returned (.int .i64 r) ∧ Drawn0 w w' := by
 subst hn
 exact laws_heldIntSS.calls k A0 c0 l0 a1 r w hr0 hc0 h
set_option maxHeartbeats 8000000 in
set_option maxRecDepth 100000 in
theorem laws_FnExactCoverConj.calls (k : Nat) (A0_0 : Option Addr) (c0_0 : Nat) (l0_0 : List Int) (A0_1 : Option Addr) (c0_1 : Nat) (l0_1 : List Int) (a1 : Int) (A2 : Option Addr) (c2 : Nat) (l2 : List (List Int)) (a3 : Int) (A4 : Option Addr) (c4 : Nat) (l4 : List Int) (r : Bool) (w : World) (hr0_0 : Kd.C (Kd.int .i64) w A0_0 l0_0.length l0_0) (hc0_0 : l0_0.length ≤ c0_0) (hr0_1 : Kd.C (Kd.int .i64) w A0_1 l0_1.length l0_1) (hc0_1 : l0_1.length ≤ c0_1) (hr2 : Kd.C (Kd.slice 3 (Kd.int .i64)) w A2 l2.length l2) (hc2 : l2.length ≤ c2) (hr4 : Kd.C (Kd.int .i64) w A4 l4.length l4) (hc4 : l4.length ≤ c4) (h : laws_FnExactCoverConj.f k l0_0 l0_1 a1 l2 a3 l4 = some r) :
    Calls Try.prog 12 #[.agg #[.slice A0_0 l0_0.length c0_0, .slice A0_1 l0_1.length c0_1], .int .i64 a1, .slice A2 l2.length c2, .int .i64 a3, .slice A4 l4.length c4] w fun e w' => e = .returned (.bool r) ∧ Below w.heap.size w w' := by
 have hu24 := Try.underlying24; have hu29 := Try.underlying29; have HR0_0 := A0_ hr0_0; have HC0_0 := A0_ hc0_0; clear hr0_0 hc0_0; have HR0_1 := A0_ hr0_1; have HC0_1 := A0_ hc0_1; clear hr0_1 hc0_1; have HR2 := A0_ hr2; have HC2 := A0_ hc2; clear hr2 hc2; have HR4 := A0_ hr4; have HC4 := A0_ hc4; clear hr4 hc4
 have HB := A0_ (Below.refl w.heap.size w)
 have H : (if (l4.length : Int) > 1048576 then (some true) else ((laws_szMap.f l0_0 l0_1 1048576).bind fun t451 => (if t451 < 0 then (some true) else ((laws_szIntSS.f k l2 t451).bind fun t452 => (if t452 < 0 then (some true) else ((laws_toMap.f k l0_0 l0_1).bind fun bt453 => ((laws_toIntSS.f k l2).bind fun t459 => ((laws_toIntS.f k l4).bind fun t462 => ((spec_CoverConj.f k bt453.1 bt453.2 a1 t459 a3 t462).bind fun bt465 => ((laws_toMap.f k l0_0 l0_1).bind fun bt469 => ((laws_toIntSS.f k l2).bind fun t476 => ((laws_toIntS.f k l4).bind fun t479 => ((impl_CoverConj.f k bt469.1 bt469.2 a1 t476 a3 t479).bind fun bt482 => ((laws_eqIntSS.f k bt482.1 bt465.1).bind fun t486 => (if t486 = true then (laws_FnExactCoverConj.j0 k a1 l2 a3 l4 bt465.1 bt465.2 t476 t479 bt482.1 bt482.2 (bt482.2 != bt465.2) l0_0 l0_1 bt469.1 bt469.2) else (laws_FnExactCoverConj.j0 k a1 l2 a3 l4 bt465.1 bt465.2 t476 t479 bt482.1 bt482.2 true l0_0 l0_1 bt469.1 bt469.2)))))))))))))))) = some r := h
 clear h
 by_cases c6 : (l4.length : Int) > 1048576
 ·rw [if_pos c6] at H
  have c6b0 : decide (1048576 < (l4.length : Int)) = true := dT c6
  have c6b1 : decide (1048576 < l4.length) = true := dT (by omega)
  clear c6; obtain rfl := sI H
  go_enter Try.func12, Try.ntmps12
  go_wp2_with (first | ((with_reducible refine gD (N := 5) rfl ?_); refine zX (N := 5) (cs := #[.slice A0_0 l0_0.length c0_0, .slice A0_1 l0_1.length c0_1]) (t := 24) ?_; intro gb450 hg w7 hbox hb; have BK450 := A0_ (hbox); have GW450 := zG hg HB; have GE450 := zG hg HB; replace HB := zB HB hb; clear hb hbox hg))
  go_ret
  exact ⟨by first | rfl | (simp [*] <;> rfl), zB_ HB⟩
 rw [if_neg c6] at H
 have c6b0 : decide (1048576 < (l4.length : Int)) = false := dF c6
 have c6b1 : decide (1048576 < l4.length) = false := dF (by omega)
 clear c6; obtain ⟨t451, A8, H⟩ := zbind H
 by_cases c9 : t451 < 0
 ·rw [if_pos c9] at H
  have c9b0 := dT c9; clear c9; obtain rfl := sI H
  go_enter Try.func12, Try.ntmps12
  go_wp2_with (first | ((with_reducible refine gD (N := 5) rfl ?_); refine zX (N := 5) (cs := #[.slice A0_0 l0_0.length c0_0, .slice A0_1 l0_1.length c0_1]) (t := 24) ?_; intro gb450 hg w10 hbox hb; have BK450 := A0_ (hbox); have GW450 := zG hg HB; have GE450 := zG hg HB; replace HB := zB HB hb; clear hb hbox hg; have hcz11_0 := zc0 BK450; have hcz11_1 := zc1 BK450; have hfz11_0 := kF BK450.out 0; have hfz11_1 := kF BK450.out 1) | ((with_reducible refine gC (f := 15) rfl ?_); refine zJ (some 29) Try.func15 #[.agg #[.slice A0_0 l0_0.length c0_0, .slice A0_1 l0_1.length c0_1], .int .i64 1048576] ?_; (with_reducible refine (laws_szMap.calls _ _ l0_0 _ _ l0_1 1048576 t451 _ ?side1 ?side2 ?side3 ?side4 A8.out).mono ?_); (case side1 => exact zC HR0_0 HB); (case side2 => exact HC0_0.out); (case side3 => exact zC HR0_1 HB); (case side4 => exact HC0_1.out); rintro e w12 ⟨rfl, hb⟩; refine ⟨_, rfl, ?_⟩; replace BK450 := zK BK450 hb; replace HB := zB HB hb; (try clear hb)))
  go_ret
  exact ⟨by first | rfl | (simp [*] <;> rfl), zB_ HB⟩
 rw [if_neg c9] at H; have c9b0 := dF c9; clear c9; obtain ⟨t452, A13, H⟩ := zbind H
 by_cases c14 : t452 < 0
 ·rw [if_pos c14] at H
  have c14b0 := dT c14; clear c14; obtain rfl := sI H
  go_enter Try.func12, Try.ntmps12
  go_wp2_with (first | ((with_reducible refine gD (N := 5) rfl ?_); refine zX (N := 5) (cs := #[.slice A0_0 l0_0.length c0_0, .slice A0_1 l0_1.length c0_1]) (t := 24) ?_; intro gb450 hg w15 hbox hb; have BK450 := A0_ (hbox); have GW450 := zG hg HB; have GE450 := zG hg HB; replace HB := zB HB hb; clear hb hbox hg; have hcz16_0 := zc0 BK450; have hcz16_1 := zc1 BK450; have hfz16_0 := kF BK450.out 0; have hfz16_1 := kF BK450.out 1) | ((with_reducible refine gC (f := 15) rfl ?_); refine zJ (some 29) Try.func15 #[.agg #[.slice A0_0 l0_0.length c0_0, .slice A0_1 l0_1.length c0_1], .int .i64 1048576] ?_; (with_reducible refine (laws_szMap.calls _ _ l0_0 _ _ l0_1 1048576 t451 _ ?side1 ?side2 ?side3 ?side4 A8.out).mono ?_); (case side1 => exact zC HR0_0 HB); (case side2 => exact HC0_0.out); (case side3 => exact zC HR0_1 HB); (case side4 => exact HC0_1.out); rintro e w17 ⟨rfl, hb⟩; refine ⟨_, rfl, ?_⟩; replace BK450 := zK BK450 hb; replace HB := zB HB hb; (try clear hb)) | ((with_reducible refine gC (f := 16) rfl ?_); refine zJ (some 34) Try.func16 #[.slice A2 l2.length c2, .int .i64 t451] ?_; (with_reducible refine (laws_szIntSS.calls k _ _ l2 t451 t452 _ ?side1 ?side2 A13.out).mono ?_); (case side1 => exact zC HR2 HB); (case side2 => exact HC2.out); rintro e w' ⟨rfl, ⟨nd, rfl⟩⟩; refine ⟨_, rfl, ?_⟩))
  go_ret
  exact ⟨by first | rfl | (simp [*] <;> rfl), zB_ HB⟩
 rw [if_neg c14] at H; have c14b0 := dF c14; clear c14; obtain ⟨⟨t453, t456⟩, A18, H⟩ := zbind H; dsimp only at H; obtain ⟨t459, A19, H⟩ := zbind H; obtain ⟨t462, A20, H⟩ := zbind H; obtain ⟨⟨t465, t468⟩, A21, H⟩ := zbind H; dsimp only at H; obtain ⟨⟨t469, t472⟩, A22, H⟩ := zbind H; dsimp only at H; obtain ⟨t476, A23, H⟩ := zbind H; obtain ⟨t479, A24, H⟩ := zbind H; obtain ⟨⟨t482, t485⟩, A25, H⟩ := zbind H; dsimp only at H; have HC26 := A0_ H; clear H
 go_enter Try.func12, Try.ntmps12
 go_upto_region 15 with (first | ((with_reducible refine gD (N := 5) rfl ?_); refine zX (N := 5) (cs := #[.slice A0_0 l0_0.length c0_0, .slice A0_1 l0_1.length c0_1]) (t := 24) ?_; intro gb450 hg w27 hbox hb; have BK450 := A0_ (hbox); have GW450 := zG hg HB; have GE450 := zG hg HB; replace HB := zB HB hb; clear hb hbox hg; have hcz28_0 := zc0 BK450; have hcz28_1 := zc1 BK450; have hfz28_0 := kF BK450.out 0; have hfz28_1 := kF BK450.out 1) | ((with_reducible refine gC (f := 15) rfl ?_); refine zJ (some 29) Try.func15 #[.agg #[.slice A0_0 l0_0.length c0_0, .slice A0_1 l0_1.length c0_1], .int .i64 1048576] ?_; (with_reducible refine (laws_szMap.calls _ _ l0_0 _ _ l0_1 1048576 t451 _ ?side1 ?side2 ?side3 ?side4 A8.out).mono ?_); (case side1 => exact zC HR0_0 HB); (case side2 => exact HC0_0.out); (case side3 => exact zC HR0_1 HB); (case side4 => exact HC0_1.out); rintro e w29 ⟨rfl, hb⟩; refine ⟨_, rfl, ?_⟩; replace BK450 := zK BK450 hb; replace HB := zB HB hb; (try clear hb)) | ((with_reducible refine gC (f := 16) rfl ?_); refine zJ (some 34) Try.func16 #[.slice A2 l2.length c2, .int .i64 t451] ?_; (with_reducible refine (laws_szIntSS.calls k _ _ l2 t451 t452 _ ?side1 ?side2 A13.out).mono ?_); (case side1 => exact zC HR2 HB); (case side2 => exact HC2.out); rintro e w' ⟨rfl, ⟨nd, rfl⟩⟩; refine ⟨_, rfl, ?_⟩; (try (rw [drewN_self w29]; generalize hq_ : World.drewN w29 _ = w29; have n0_ : Aside0 (w29.heap[gb450]? = some (.cells #[.slice A0_0 l0_0.length c0_0, .slice A0_1 l0_1.length c0_1] 24 (0, 0))) := ⟨by rw [← hq_]; exact (zK_ BK450)⟩; have n1_ : Aside0 (Below w.heap.size w w29) := ⟨by rw [← hq_]; exact (zB_ HB)⟩; clear BK450 HB hq_; have BK450 := n0_; have HB := n1_; clear n0_ n1_)); have hcz30_0 := zc0 BK450; have hcz30_1 := zc1 BK450; have hfz30_0 := kF BK450.out 0; have hfz30_1 := kF BK450.out 1) | ((with_reducible refine gC (f := 18) rfl ?_); refine zJ (some 39) Try.func18 #[.agg #[.slice A0_0 l0_0.length c0_0, .slice A0_1 l0_1.length c0_1]] ?_; (with_reducible refine (laws_toMap.calls k _ _ l0_0 _ _ l0_1 t453 t456 _ ?side1 ?side2 ?side3 ?side4 A18.out).mono ?_); (case side1 => exact zC HR0_0 HB); (case side2 => exact HC0_0.out); (case side3 => exact zC HR0_1 HB); (case side4 => exact HC0_1.out); rintro e w31 ⟨v454, v457, rfl, ho0, ho1, hb⟩; refine ⟨_, rfl, ?_⟩; have HO455 := A0_ (rL ho0 (bZ (zB_ HB))); have HO458 := A0_ (rL ho1 (bZ (zB_ HB))); replace BK450 := zK BK450 hb; replace HB := zB HB hb; (try clear hb); (try clear ho0); (try clear ho1)) | ((with_reducible refine gC (f := 19) rfl ?_); refine zJ (some 42) Try.func19 #[.slice A2 l2.length c2] ?_; (with_reducible refine (laws_toIntSS.calls k _ _ l2 t459 _ ?side1 ?side2 A19.out).mono ?_); (case side1 => exact zC HR2 HB); (case side2 => exact HC2.out); rintro e w32 ⟨v460, rfl, ho0, hb⟩; refine ⟨_, rfl, ?_⟩; have HO461 := A0_ (Kd.S_lower (Kd.S_new' (Kd.S_new' ho0 (rX (zR_ HO455))) (rX (zR_ HO458))) (bZ (zB_ HB))); replace HO455 := zR HO455 hb; replace HO458 := zR HO458 hb; replace BK450 := zK BK450 hb; replace HB := zB HB hb; (try clear hb); (try clear ho0)) | ((with_reducible refine gC (f := 29) rfl ?_); refine zJ (some 45) Try.func29 #[.slice A4 l4.length c4] ?_; (with_reducible refine (laws_toIntS.calls k _ _ l4 t462 _ ?side1 ?side2 A20.out).mono ?_); (case side1 => exact zC HR4 HB); (case side2 => exact HC4.out); rintro e w33 ⟨v463, rfl, ho0, hb⟩; refine ⟨_, rfl, ?_⟩; replace HO461 := A0_ (Kd.S_elder' (zS_ HO461) (Kd.R_base ho0) hb); have HO464 := A0_ (rL (Kd.R_new' (Kd.R_new' ho0 (rX (zR_ HO455))) (rX (zR_ HO458))) (bZ (zB_ HB))); replace HO455 := A0_ (Kd.R_elder' (zR_ HO455) (Kd.R_base ho0) hb); replace HO458 := A0_ (Kd.R_elder' (zR_ HO458) (Kd.R_base ho0) hb); replace BK450 := zK BK450 hb; replace HB := zB HB hb; (try clear hb); (try clear ho0); obtain ⟨Ao34, co34, eo34⟩ := rS HO455.out; subst eo34; obtain ⟨Ao35, co35, eo35⟩ := rS HO458.out; subst eo35; obtain ⟨Ao36, co36, eo36⟩ := Kd.S_slice HO461.out; subst eo36; obtain ⟨Ao37, co37, eo37⟩ := rS HO464.out; subst eo37) | ((with_reducible refine gC (f := 47) rfl ?_); refine zJ (some 46) Try.func47 #[.agg #[.slice Ao34 t453.length co34, .slice Ao35 t456.length co35], .int .i64 a1, .slice Ao36 t459.length co36, .int .i64 a3, .slice Ao37 t462.length co37] ?_; (with_reducible refine (spec_CoverConj.calls k _ _ t453 _ _ t456 a1 _ _ t459 a3 _ _ t462 t465 t468 _ ?side1 ?side2 ?side3 ?side4 ?side5 ?side6 ?side7 ?side8 A21.out).mono ?_); (case side1 => exact zD HO455); (case side2 => exact (rR HO455.out).2.1); (case side3 => exact zD HO458); (case side4 => exact (rR HO458.out).2.1); (case side5 => exact zDS HO461); (case side6 => exact (Kd.S_reads' HO461.out).2.1); (case side7 => exact zD HO464); (case side8 => exact (rR HO464.out).2.1); rintro e w38 ⟨v466, rfl, ho0, hb⟩; refine ⟨_, rfl, ?_⟩; have HO467 := A0_ (Kd.S_lower (Kd.S_new' (Kd.S_new' (Kd.S_new' (Kd.S_new' ho0 (rX (zR_ HO455))) (rX (zR_ HO458))) (Kd.S_lt (zS_ HO461))) (rX (zR_ HO464))) (bZ (zB_ HB))); replace HO455 := zR HO455 hb; replace HO458 := zR HO458 hb; replace HO461 := A0_ (Kd.S_elder' (zS_ HO461) (Kd.S_base ho0) hb); replace HO464 := zR HO464 hb; replace BK450 := zK BK450 hb; replace HB := zB HB hb; (try clear hb); (try clear ho0); have hcz39_0 := zc0 BK450; have hcz39_1 := zc1 BK450; have hfz39_0 := kF BK450.out 0; have hfz39_1 := kF BK450.out 1) | ((with_reducible refine gC (f := 18) rfl ?_); refine zJ (some 50) Try.func18 #[.agg #[.slice A0_0 l0_0.length c0_0, .slice A0_1 l0_1.length c0_1]] ?_; (with_reducible refine (laws_toMap.calls k _ _ l0_0 _ _ l0_1 t469 t472 _ ?side1 ?side2 ?side3 ?side4 A22.out).mono ?_); (case side1 => exact zC HR0_0 HB); (case side2 => exact HC0_0.out); (case side3 => exact zC HR0_1 HB); (case side4 => exact HC0_1.out); rintro e w40 ⟨v470, v473, rfl, ho0, ho1, hb⟩; refine ⟨_, rfl, ?_⟩; replace HO461 := A0_ (sM (Kd.S_told (Kd.S_told (Kd.S_old (zS_ HO461) hb) (Kd.R_base ho0)) (Kd.R_base ho1)) (fun _ h_ => h_.1)); replace HO467 := A0_ (sM (Kd.S_told (Kd.S_told (Kd.S_old (zS_ HO467) hb) (Kd.R_base ho0)) (Kd.R_base ho1)) (fun _ h_ => h_.1)); have HO471 := A0_ (rL (Kd.R_new' (Kd.R_new' (Kd.R_new' ho0 (rX (zR_ HO455))) (rX (zR_ HO458))) (rX (zR_ HO464))) (bZ (zB_ HB))); have HO474 := A0_ (rL (Kd.R_new' (Kd.R_new' (Kd.R_new' ho1 (rX (zR_ HO455))) (rX (zR_ HO458))) (rX (zR_ HO464))) (bZ (zB_ HB))); replace HO455 := A0_ (rM (rT (rT (rO (zR_ HO455) hb) (Kd.R_base ho0)) (Kd.R_base ho1)) (fun _ h_ => h_.1)); replace HO458 := A0_ (rM (rT (rT (rO (zR_ HO458) hb) (Kd.R_base ho0)) (Kd.R_base ho1)) (fun _ h_ => h_.1)); replace HO464 := A0_ (rM (rT (rT (rO (zR_ HO464) hb) (Kd.R_base ho0)) (Kd.R_base ho1)) (fun _ h_ => h_.1)); replace BK450 := zK BK450 hb; replace HB := zB HB hb; (try clear hb); (try clear ho0); (try clear ho1)) | ((with_reducible refine gD (N := 14) rfl ?_); refine zX (N := 14) (cs := #[.slice none 0 0, .slice none 0 0]) (t := 29) ?_; intro gb475 hg w41 hbox hb; replace HO455 := zR HO455 hb; replace HO458 := zR HO458 hb; replace HO461 := zS HO461 hb; replace HO464 := zR HO464 hb; replace HO467 := zS HO467 hb; replace HO471 := zR HO471 hb; replace HO474 := zR HO474 hb; have BK475 := A0_ (hbox); have GW475 := zG hg HB; have GE475 := zG hg HB; replace HB := zB HB hb; have NB450_475 := zL hg BK450; have NB475_450 := zM hg BK450; replace BK450 := zK BK450 hb; clear hb hbox hg; obtain ⟨Ao42, co42, eo42⟩ := rS HO471.out; subst eo42; have hnb43 := NB475_450.out; have hnc43 := NB450_475.out; have hcz44_0 := zc0 BK475; have hcz44_1 := zc1 BK475; have hfz44_0 := kF BK475.out 0; have hfz44_1 := kF BK475.out 1; obtain ⟨Ao45, co45, eo45⟩ := rS HO474.out; subst eo45) | ((with_reducible refine gC (f := 19) rfl ?_); refine zJ (some 52) Try.func19 #[.slice A2 l2.length c2] ?_; (with_reducible refine (laws_toIntSS.calls k _ _ l2 t476 _ ?side1 ?side2 A23.out).mono ?_); (case side1 => exact cB HR2.out (zB_ HB)); (case side2 => exact HC2.out); rintro e w46 ⟨v477, rfl, ho0, hb⟩; refine ⟨_, rfl, ?_⟩; have HO478 := A0_ (Kd.S_lower (Kd.S_new' (Kd.S_new' (Kd.S_new' (Kd.S_new' (Kd.S_new' (Kd.S_new' (Kd.S_new' (sM (Kd.S_bound ho0) (fun _ hk => hk.2.1)) (rX (zF HO455 BK475 (.slice Ao42 t469.length co42) (.slice Ao45 t472.length co45) 0 1))) (rX (zF HO458 BK475 (.slice Ao42 t469.length co42) (.slice Ao45 t472.length co45) 0 1))) (Kd.S_lt (zFS HO461 BK475 (.slice Ao42 t469.length co42) (.slice Ao45 t472.length co45) 0 1))) (rX (zF HO464 BK475 (.slice Ao42 t469.length co42) (.slice Ao45 t472.length co45) 0 1))) (Kd.S_lt (zFS HO467 BK475 (.slice Ao42 t469.length co42) (.slice Ao45 t472.length co45) 0 1))) (rX (zF HO471 BK475 (.slice Ao42 t469.length co42) (.slice Ao45 t472.length co45) 0 1))) (rX (zF HO474 BK475 (.slice Ao42 t469.length co42) (.slice Ao45 t472.length co45) 0 1))) (bZ (zB_ HB))); replace HO455 := A0_ (rB (zF HO455 BK475 (.slice Ao42 t469.length co42) (.slice Ao45 t472.length co45) 0 1) hb); replace HO458 := A0_ (rB (zF HO458 BK475 (.slice Ao42 t469.length co42) (.slice Ao45 t472.length co45) 0 1) hb); replace HO461 := A0_ (Kd.S_elder' (zFS HO461 BK475 (.slice Ao42 t469.length co42) (.slice Ao45 t472.length co45) 0 1) (Kd.S_base ho0) hb); replace HO464 := A0_ (rB (zF HO464 BK475 (.slice Ao42 t469.length co42) (.slice Ao45 t472.length co45) 0 1) hb); replace HO467 := A0_ (Kd.S_elder' (sM (Kd.S_bound (zFS HO467 BK475 (.slice Ao42 t469.length co42) (.slice Ao45 t472.length co45) 0 1)) (fun _ hk => And.intro hk.1 hk.2.2.1)) (Kd.S_base ho0) hb); replace HO471 := A0_ (rB (zF HO471 BK475 (.slice Ao42 t469.length co42) (.slice Ao45 t472.length co45) 0 1) hb); replace HO474 := A0_ (rB (zF HO474 BK475 (.slice Ao42 t469.length co42) (.slice Ao45 t472.length co45) 0 1) hb); replace BK450 := A0_ (kB (g := gb450) (o := .cells #[.slice A0_0 l0_0.length c0_0, .slice A0_1 l0_1.length c0_1] 24 (0, 0)) (by (with_reducible repeat refine kA ?_ _); refine blk_far ?_ NB450_475.out _; (with_reducible repeat refine kA ?_ _); refine blk_far ?_ NB450_475.out _; (with_reducible repeat refine kA ?_ _); exact BK450.out) hb); replace BK475 := A0_ (kB (g := gb475) (o := .cells #[.slice Ao42 t469.length co42, .slice Ao45 t472.length co45] 29 (0, 0)) (by (with_reducible repeat refine kA ?_ _); refine blk_put (cs := #[.slice Ao42 t469.length co42, .slice none 0 0]) ?_ 1 _ rfl; (with_reducible repeat refine kA ?_ _); refine blk_put (cs := #[.slice none 0 0, .slice none 0 0]) ?_ 0 _ rfl; (with_reducible repeat refine kA ?_ _); exact BK475.out) hb); replace HB := zB HB hb; (try clear hb); (try clear ho0)) | ((with_reducible refine gC (f := 29) rfl ?_); refine zJ (some 54) Try.func29 #[.slice A4 l4.length c4] ?_; (with_reducible refine (laws_toIntS.calls k _ _ l4 t479 _ ?side1 ?side2 A24.out).mono ?_); (case side1 => exact zC HR4 HB); (case side2 => exact HC4.out); rintro e w47 ⟨v480, rfl, ho0, hb⟩; refine ⟨_, rfl, ?_⟩; replace HO461 := A0_ (Kd.S_elder' (zS_ HO461) (Kd.R_base ho0) hb); replace HO467 := A0_ (Kd.S_elder' (zS_ HO467) (Kd.R_base ho0) hb); replace HO478 := A0_ (Kd.S_elder' (zS_ HO478) (Kd.R_base ho0) hb); have HO481 := A0_ (rL (Kd.R_new' (Kd.R_new' (Kd.R_new' (Kd.R_new' (Kd.R_new' ho0 (rX (zR_ HO455))) (rX (zR_ HO458))) (rX (zR_ HO464))) (rX (zR_ HO471))) (rX (zR_ HO474))) (bZ (zB_ HB))); replace HO455 := A0_ (Kd.R_elder' (zR_ HO455) (Kd.R_base ho0) hb); replace HO458 := A0_ (Kd.R_elder' (zR_ HO458) (Kd.R_base ho0) hb); replace HO464 := A0_ (Kd.R_elder' (zR_ HO464) (Kd.R_base ho0) hb); replace HO471 := A0_ (Kd.R_elder' (zR_ HO471) (Kd.R_base ho0) hb); replace HO474 := A0_ (Kd.R_elder' (zR_ HO474) (Kd.R_base ho0) hb); replace BK450 := zK BK450 hb; replace BK475 := zK BK475 hb; replace HB := zB HB hb; (try clear hb); (try clear ho0); have hcz48_0 := zc0 BK475; have hcz48_1 := zc1 BK475; have hfz48_0 := kF BK475.out 0; have hfz48_1 := kF BK475.out 1; obtain ⟨Ao49, co49, eo49⟩ := Kd.S_slice HO478.out; subst eo49; obtain ⟨Ao50, co50, eo50⟩ := rS HO481.out; subst eo50) | ((with_reducible refine gC (f := 48) rfl ?_); refine zJ (some 61) Try.func48 #[.agg #[.slice Ao42 t469.length co42, .slice Ao45 t472.length co45], .int .i64 a1, .slice Ao49 t476.length co49, .int .i64 a3, .slice Ao50 t479.length co50] ?_; (with_reducible refine (impl_CoverConj.calls k _ _ t469 _ _ t472 a1 _ _ t476 a3 _ _ t479 t482 t485 _ ?side1 ?side2 ?side3 ?side4 ?side5 ?side6 ?side7 ?side8 A25.out).mono ?_); (case side1 => exact zD HO471); (case side2 => exact (rR HO471.out).2.1); (case side3 => exact zD HO474); (case side4 => exact (rR HO474.out).2.1); (case side5 => exact zDS HO478); (case side6 => exact (Kd.S_reads' HO478.out).2.1); (case side7 => exact zD HO481); (case side8 => exact (rR HO481.out).2.1); rintro e w51 ⟨v483, rfl, ho0, hb⟩; refine ⟨_, rfl, ?_⟩; have HO484 := A0_ (Kd.S_lower (Kd.S_new' (Kd.S_new' (Kd.S_new' (Kd.S_new' (Kd.S_new' (Kd.S_new' (Kd.S_new' (Kd.S_new' (Kd.S_new' (sM (Kd.S_bound ho0) (fun _ hk => hk.2.1)) (rX (zR_ HO455))) (rX (zR_ HO458))) (Kd.S_lt (zS_ HO461))) (rX (zR_ HO464))) (Kd.S_lt (zS_ HO467))) (rX (zR_ HO471))) (rX (zR_ HO474))) (Kd.S_lt (zS_ HO478))) (rX (zR_ HO481))) (bZ (zB_ HB))); replace HO455 := zR HO455 hb; replace HO458 := zR HO458 hb; replace HO461 := A0_ (Kd.S_elder' (zS_ HO461) (Kd.S_base ho0) hb); replace HO464 := zR HO464 hb; replace HO467 := A0_ (Kd.S_elder' (sM (Kd.S_bound (zS_ HO467)) (fun _ hk => And.intro hk.1 hk.2.2.1)) (Kd.S_base ho0) hb); replace HO471 := zR HO471 hb; replace HO474 := zR HO474 hb; replace HO478 := A0_ (Kd.S_elder' (sM (Kd.S_bound (zS_ HO478)) (fun _ hk => And.intro hk.1 hk.2.2.1)) (Kd.S_base ho0) hb); replace HO481 := zR HO481 hb; replace BK450 := zK BK450 hb; replace BK475 := zK BK475 hb; replace HB := zB HB hb; (try clear hb); (try clear ho0)))
 (try simp only [Act.put, List.setIfInBounds_toArray, List.set_cons_zero, List.set_cons_succ])
 go_cut [72] (fun v72 wc => ∃ (kq : Nat) (x72_25 : Bool) (M1_ M2_ : Nat), v72 = .bool x72_25 ∧ Aside0 (laws_FnExactCoverConj.j0 kq a1 l2 a3 l4 t465 t468 t476 t479 t482 t485 x72_25 l0_0 l0_1 t469 t472 = some r) ∧ Aside0 (kq ≤ k) ∧ Aside0 (Kd.S (Kd.slice 3 (Kd.int .i64)) 22 wc w.heap.size (fun k_ => some k_ ≠ ((.slice Ao49 t476.length co49) : Value).ownBlock ∧ some k_ ≠ ((.slice Ao50 t479.length co50) : Value).ownBlock ∧ some k_ ≠ (v483 : Value).ownBlock ∧ some k_ ≠ ((.slice Ao42 t469.length co42) : Value).ownBlock ∧ some k_ ≠ ((.slice Ao45 t472.length co45) : Value).ownBlock ∧ k_ < M1_ ∧ k_ < M2_) v466 t465) ∧ Aside0 (Kd.S (Kd.slice 3 (Kd.int .i64)) 22 wc w.heap.size (fun k_ => some k_ ≠ (v466 : Value).ownBlock ∧ some k_ ≠ ((.slice Ao50 t479.length co50) : Value).ownBlock ∧ some k_ ≠ (v483 : Value).ownBlock ∧ some k_ ≠ ((.slice Ao42 t469.length co42) : Value).ownBlock ∧ some k_ ≠ ((.slice Ao45 t472.length co45) : Value).ownBlock ∧ M1_ ≤ k_ ∧ k_ < M2_) (.slice Ao49 t476.length co49) t476) ∧ Aside0 (Kd.R (Kd.int .i64) 3 wc w.heap.size (fun k_ => some k_ ≠ ((.slice Ao42 t469.length co42) : Value).ownBlock ∧ some k_ ≠ ((.slice Ao45 t472.length co45) : Value).ownBlock) (.slice Ao50 t479.length co50) t479) ∧ Aside0 (Kd.S (Kd.slice 3 (Kd.int .i64)) 22 wc w.heap.size (fun k_ => some k_ ≠ (v466 : Value).ownBlock ∧ some k_ ≠ ((.slice Ao49 t476.length co49) : Value).ownBlock ∧ some k_ ≠ ((.slice Ao50 t479.length co50) : Value).ownBlock ∧ some k_ ≠ ((.slice Ao42 t469.length co42) : Value).ownBlock ∧ some k_ ≠ ((.slice Ao45 t472.length co45) : Value).ownBlock ∧ M2_ ≤ k_) v483 t482) ∧ Aside0 (Kd.R (Kd.int .i64) 3 wc w.heap.size (fun k_ => some k_ ≠ ((.slice Ao50 t479.length co50) : Value).ownBlock ∧ some k_ ≠ ((.slice Ao45 t472.length co45) : Value).ownBlock) (.slice Ao42 t469.length co42) t469) ∧ Aside0 (Kd.R (Kd.int .i64) 3 wc w.heap.size (fun k_ => some k_ ≠ ((.slice Ao50 t479.length co50) : Value).ownBlock ∧ some k_ ≠ ((.slice Ao42 t469.length co42) : Value).ownBlock) (.slice Ao45 t472.length co45) t472) ∧ Aside0 (wc.heap[gb450]? = some (.cells #[(.slice A0_0 l0_0.length c0_0), (.slice A0_1 l0_1.length c0_1)] 24 (0, 0))) ∧ Aside0 (wc.heap[gb475]? = some (.cells #[(.slice Ao42 t469.length co42), (.slice Ao45 t472.length co45)] 29 (0, 0))) ∧ Aside0 (Below w.heap.size w wc))
 case first =>
  have H := HC26.out; clear HC26; obtain ⟨t486, A52, H⟩ := zbind H
  by_cases c53 : t486 = true
  ·subst c53
   rw [if_pos rfl] at H; have H' := A0_ H; clear H; obtain ⟨Ao54, co54, eo54⟩ := Kd.S_slice HO484.out; subst eo54; obtain ⟨Ao55, co55, eo55⟩ := Kd.S_slice HO467.out; subst eo55
   go_wp2_with (first | ((with_reducible refine gC (f := 22) rfl ?_); refine zJ (some 66) Try.func22 #[.slice Ao54 t482.length co54, .slice Ao55 t465.length co55] ?_; (with_reducible refine (laws_eqIntSS.calls k _ _ t482 _ _ t465 true _ ?side1 ?side2 ?side3 ?side4 A52.out).mono ?_); (case side1 => exact zDS HO484); (case side2 => exact (Kd.S_reads' HO484.out).2.1); (case side3 => exact zDS HO467); (case side4 => exact (Kd.S_reads' HO467.out).2.1); rintro e w' ⟨rfl, ⟨nd, rfl⟩⟩; refine ⟨_, rfl, ?_⟩))
   go_meet
   case rel => exact ⟨_, ((t485 != t468)), _, _, zt, H', zo, ⟨zmS HO467 (fun _ hk => ⟨hk.1.1.1.2, hk.1.1.2, hk.2, hk.1.1.1.1.1.1.2, hk.1.1.1.1.1.2, hk.1.1.1.1.2, hk.1.2⟩)⟩, ⟨zmS HO478 (fun _ hk => ⟨hk.1.1.1.1.1.2, hk.1.1.2, hk.2, hk.1.1.1.1.2, hk.1.1.1.2, hk.1.1.1.1.1.1.1.1.1.1, hk.1.2⟩)⟩, ⟨zmR HO481 (fun _ hk => ⟨hk.1.2, hk.2⟩)⟩, ⟨zmS HO484 (fun _ hk => ⟨hk.1.1.1.1.2, hk.1.2, hk.2, hk.1.1.1.2, hk.1.1.2, hk.1.1.1.1.1.1.1.1.1⟩)⟩, ⟨zmR HO471 (fun _ hk => ⟨hk.2, hk.1.1.1.1⟩)⟩, ⟨zmR HO474 (fun _ hk => ⟨hk.2, hk.1.1.1.1⟩)⟩, ⟨zK_ BK450⟩, ⟨zK_ BK475⟩, ⟨zB_ HB⟩⟩
  replace c53 := Bool.eq_false_iff.mpr c53; subst c53
  rw [if_neg (show ¬ (false = true) by decide)] at H
  have H' := A0_ H; clear H; obtain ⟨Ao56, co56, eo56⟩ := Kd.S_slice HO484.out; subst eo56; obtain ⟨Ao57, co57, eo57⟩ := Kd.S_slice HO467.out; subst eo57
  go_wp2_with (first | ((with_reducible refine gC (f := 22) rfl ?_); refine zJ (some 66) Try.func22 #[.slice Ao56 t482.length co56, .slice Ao57 t465.length co57] ?_; (with_reducible refine (laws_eqIntSS.calls k _ _ t482 _ _ t465 false _ ?side1 ?side2 ?side3 ?side4 A52.out).mono ?_); (case side1 => exact zDS HO484); (case side2 => exact (Kd.S_reads' HO484.out).2.1); (case side3 => exact zDS HO467); (case side4 => exact (Kd.S_reads' HO467.out).2.1); rintro e w' ⟨rfl, ⟨nd, rfl⟩⟩; refine ⟨_, rfl, ?_⟩))
  go_meet
  case rel => exact ⟨_, (true), _, _, zt, H', zo, ⟨zmS HO467 (fun _ hk => ⟨hk.1.1.1.2, hk.1.1.2, hk.2, hk.1.1.1.1.1.1.2, hk.1.1.1.1.1.2, hk.1.1.1.1.2, hk.1.2⟩)⟩, ⟨zmS HO478 (fun _ hk => ⟨hk.1.1.1.1.1.2, hk.1.1.2, hk.2, hk.1.1.1.1.2, hk.1.1.1.2, hk.1.1.1.1.1.1.1.1.1.1, hk.1.2⟩)⟩, ⟨zmR HO481 (fun _ hk => ⟨hk.1.2, hk.2⟩)⟩, ⟨zmS HO484 (fun _ hk => ⟨hk.1.1.1.1.2, hk.1.2, hk.2, hk.1.1.1.2, hk.1.1.2, hk.1.1.1.1.1.1.1.1.1⟩)⟩, ⟨zmR HO471 (fun _ hk => ⟨hk.2, hk.1.1.1.1⟩)⟩, ⟨zmR HO474 (fun _ hk => ⟨hk.2, hk.1.1.1.1⟩)⟩, ⟨zK_ BK450⟩, ⟨zK_ BK475⟩, ⟨zB_ HB⟩⟩
 case rest =>
  clear HC26; (try clear c1); (try clear c2); (try clear p2); (try clear c4); (try clear c5); (try clear c6); (try clear c6b0); (try clear c6b1); (try clear c9); (try clear c9b0); (try clear c12); (try clear c14); (try clear c14b0); (try clear c15); (try clear c16); (try clear c18); (try clear c19); (try clear c22); (try clear c29); (try clear c43); (try clear c47); (try clear c48); (try clear c53); (try clear hcz11_0); (try clear hcz11_1); (try clear hcz16_0); (try clear hcz16_1); (try clear hcz28_0); (try clear hcz28_1); (try clear hcz30_0); (try clear hcz30_1); (try clear hcz39_0); (try clear hcz39_1); (try clear hcz44_0); (try clear hcz44_1); (try clear hcz48_0); (try clear hcz48_1); (try clear hfz11_0); (try clear hfz11_1); (try clear hfz16_0); (try clear hfz16_1); (try clear hfz28_0); (try clear hfz28_1); (try clear hfz30_0); (try clear hfz30_1); (try clear hfz39_0); (try clear hfz39_1); (try clear hfz44_0); (try clear hfz44_1); (try clear hfz48_0); (try clear hfz48_1); obtain ⟨kq, x72_25, M1_, M2_, rfl, HA, HJ25, HO_12, HO_15, HO_16, HO_17, HO_476000, HO_476001, BK450, BK475, HB⟩ := hcut
  cases kq with
  | zero => exact absurd HA.out (by simp [laws_FnExactCoverConj.j0])
  | succ kj25 =>
   have H := HA.out; clear HA; simp only [laws_FnExactCoverConj.j0] at H
   by_cases c58 : x72_25 = true
   ·subst c58
    rw [if_pos rfl] at H; obtain rfl := sI H
    go_wp2
    go_ret
    exact ⟨by first | rfl | (simp [*] <;> rfl), zB_ HB⟩
   replace c58 := Bool.eq_false_iff.mpr c58; subst c58
   rw [if_neg (show ¬ (false = true) by decide)] at H
   obtain ⟨⟨t487, t490⟩, A59, H⟩ := zbind H; dsimp only at H; obtain ⟨t493, A60, H⟩ := zbind H
   by_cases c61 : t493 = true
   ·subst c61
    rw [if_pos rfl] at H; obtain ⟨t494, A62, H⟩ := zbind H; obtain ⟨t497, A63, H⟩ := zbind H
    by_cases c64 : t497 = true
    ·subst c64
     rw [if_pos rfl] at H; obtain ⟨t498, A65, H⟩ := zbind H; obtain ⟨t501, A66, H⟩ := zbind H
     by_cases c67 : t501 = true
     ·subst c67
      rw [if_pos rfl] at H; obtain ⟨⟨t502, t503, t504⟩, A68, H⟩ := zbind H; dsimp only at H; obtain ⟨⟨t505, zs⟩, A69, H⟩ := zbind H; dsimp only at H; obtain ⟨⟨t506, t507⟩, A70, H⟩ := zbind H; dsimp only at H; have HC71 := A0_ H; clear H
      try go_wp2
      replace HO_12 := A0_ (sD HO_12.out)
      replace HO_15 := A0_ (sD HO_15.out)
      replace HO_16 := A0_ (rD HO_16.out)
      replace HO_17 := A0_ (sD HO_17.out)
      replace HO_476000 := A0_ (rD HO_476000.out)
      replace HO_476001 := A0_ (rD HO_476001.out)
      replace BK450 := A0_ (kD BK450.out)
      replace BK475 := A0_ (kD BK475.out)
      replace HB := A0_ (bD HB.out)
      refine start_ (n := 5) (S := fun w' => w'.cell? ⟨gb475, 0, none⟩ = some (.slice Ao42 t469.length co42) ∧ w'.cell? ⟨gb475, 1, none⟩ = some (.slice Ao45 t472.length co45) ∧ w'.cell? ⟨gb450, 0, none⟩ = some (.slice A0_0 l0_0.length c0_0) ∧ w'.cell? ⟨gb450, 1, none⟩ = some (.slice A0_1 l0_1.length c0_1)) (ds := []) #[false, false, false, false, false] (by kernel_rfl) rfl rfl ⟨(kC BK475.out 0).trans rfl, (kC BK475.out 1).trans rfl, (kC BK450.out 0).trans rfl, (kC BK450.out 1).trans rfl⟩ (fun hHeld => ?_)
      generalize wc.drew = w72 at HO_12 HO_15 HO_16 HO_17 HO_476000 HO_476001 BK450 BK475 HB hHeld ⊢
      refine take_ (i := 0) (N := some 73) (v := ?_) (a' := ?_) #[true, false, false, false, false] rfl rfl (by kernel_rfl) (fun _ _ _ h => h) (Or.inl ⟨by rfl, ?_⟩) hHeld ?_ ?_
      rotate_left
      ·rintro w' ⟨s0, s1, s2, s3⟩
       go_simp
       with_reducible rfl
      rotate_left
      ·simp only [Act.put, List.setIfInBounds_toArray, List.set_cons_zero, List.set_cons_succ, i64_w, i32_w]
       rfl
      refine take_ (i := 1) (N := some 74) (v := ?_) (a' := ?_) #[true, true, false, false, false] rfl rfl (by kernel_rfl) (fun _ _ _ h => h) (Or.inl ⟨by rfl, ?_⟩) hHeld ?_ ?_
      rotate_left
      ·rintro w' ⟨s0, s1, s2, s3⟩
       go_simp
       with_reducible rfl
      rotate_left
      ·simp only [Act.put, List.setIfInBounds_toArray, List.set_cons_zero, List.set_cons_succ, i64_w, i32_w]
       rfl
      refine one_ (i := 2) (N := some 75) #[true, true, true, false, false] rfl rfl (by kernel_rfl) (by decide) (fun K hK => ?_)
      refine goes_ Try.func18 (by kernel_rfl) rfl #[.agg #[.slice A0_0 l0_0.length c0_0, .slice A0_1 l0_1.length c0_1]] (by rfl) rfl rfl (by (try simp only [List.map_toArray, List.map_cons, List.map_nil]); first | done | rfl | (simp only [List.length_drop, List.length_take]; rfl)) ?_
      with_reducible refine (laws_toMap.calls kj25 _ _ l0_0 _ _ l0_1 t487 t490 _ ?side1 ?side2 ?side3 ?side4 A59.out).mono ?_
      (case side1 => exact zC HR0_0 HB)
      (case side2 => exact HC0_0.out)
      (case side3 => exact zC HR0_1 HB)
      (case side4 => exact HC0_1.out)
      rintro e w73 ⟨v488, v491, rfl, ho0, ho1, hb⟩
      refine ⟨_, rfl, ?_⟩
      replace HO_12 := A0_ (sM (Kd.S_told (Kd.S_told (Kd.S_old (zS_ HO_12) hb) (Kd.R_base ho0)) (Kd.R_base ho1)) (fun _ h_ => h_.1))
      replace HO_15 := A0_ (sM (Kd.S_told (Kd.S_told (Kd.S_old (zS_ HO_15) hb) (Kd.R_base ho0)) (Kd.R_base ho1)) (fun _ h_ => h_.1))
      replace HO_17 := A0_ (sM (Kd.S_told (Kd.S_told (Kd.S_old (zS_ HO_17) hb) (Kd.R_base ho0)) (Kd.R_base ho1)) (fun _ h_ => h_.1))
      have HO489 := A0_ (rL (Kd.R_new' (Kd.R_new' (Kd.R_new' ho0 (rX (zR_ HO_16))) (rX (zR_ HO_476000))) (rX (zR_ HO_476001))) (bZ (zB_ HB)))
      have HO492 := A0_ (rL (Kd.R_new' (Kd.R_new' (Kd.R_new' ho1 (rX (zR_ HO_16))) (rX (zR_ HO_476000))) (rX (zR_ HO_476001))) (bZ (zB_ HB)))
      replace HO_16 := A0_ (rM (rT (rT (rO (zR_ HO_16) hb) (Kd.R_base ho0)) (Kd.R_base ho1)) (fun _ h_ => h_.1))
      replace HO_476000 := A0_ (rM (rT (rT (rO (zR_ HO_476000) hb) (Kd.R_base ho0)) (Kd.R_base ho1)) (fun _ h_ => h_.1))
      replace HO_476001 := A0_ (rM (rT (rT (rO (zR_ HO_476001) hb) (Kd.R_base ho0)) (Kd.R_base ho1)) (fun _ h_ => h_.1))
      replace BK450 := zK BK450 hb; replace BK475 := zK BK475 hb; replace HB := zB HB hb; (try clear hb); (try clear hb2); (try clear hk); (try clear hi); (try clear ho0); (try clear ho1); obtain ⟨Ao74, co74, eo74⟩ := rS HO489.out
      (first | subst eo74 | (injection eo74 with f1_ f2_ f3_; have f4_ := f1_.symm; have f5_ := f3_.symm; clear f1_ f2_ f3_; subst f4_; subst f5_))
      obtain ⟨Ao75, co75, eo75⟩ := rS HO492.out
      (first | subst eo75 | (injection eo75 with f1_ f2_ f3_; have f4_ := f1_.symm; have f5_ := f3_.symm; clear f1_ f2_ f3_; subst f4_; subst f5_))
      refine hK.out _ _ ⟨(kC BK475.out 0).trans rfl, (kC BK475.out 1).trans rfl, (kC BK450.out 0).trans rfl, (kC BK450.out 1).trans rfl⟩ (fun hHeld => ?_)
      clear hK K
      refine norm_ (a' := ?_) ?_ ?_
      rotate_left
      ·show Act.put _ (some 75) _ = _
       simp only [Act.put, List.setIfInBounds_toArray, List.set_cons_zero, List.set_cons_succ, i64_w, i32_w]
       rfl
      refine one_ (i := 3) (N := some 76) #[true, true, true, true, false] rfl rfl (by kernel_rfl) (by decide) (fun K hK => ?_)
      refine goes_ Try.func21 (by kernel_rfl) rfl #[.agg #[.slice Ao42 t469.length co42, .slice Ao45 t472.length co45], .agg #[.slice Ao74 t487.length co74, .slice Ao75 t490.length co75]] (by rfl) rfl rfl (by (try simp only [List.map_toArray, List.map_cons, List.map_nil]); first | done | rfl | (simp only [List.length_drop, List.length_take]; rfl)) ?_
      with_reducible refine (laws_eqMap.calls kj25 _ _ t469 _ _ t472 _ _ t487 _ _ t490 true _ ?side1 ?side2 ?side3 ?side4 ?side5 ?side6 ?side7 ?side8 A60.out).mono ?_
      (case side1 => exact zD HO_476000)
      (case side2 => exact (rR HO_476000.out).2.1)
      (case side3 => exact zD HO_476001)
      (case side4 => exact (rR HO_476001.out).2.1)
      (case side5 => exact zD HO489)
      (case side6 => exact (rR HO489.out).2.1)
      (case side7 => exact zD HO492)
      (case side8 => exact (rR HO492.out).2.1)
      rintro e w76 ⟨rfl, hb⟩
      refine ⟨_, rfl, ?_⟩
      replace HO_12 := zS HO_12 hb; replace HO_15 := zS HO_15 hb; replace HO_16 := zR HO_16 hb; replace HO_17 := zS HO_17 hb; replace HO_476000 := zR HO_476000 hb; replace HO_476001 := zR HO_476001 hb; replace HO489 := zR HO489 hb; replace HO492 := zR HO492 hb; replace BK450 := zK BK450 hb; replace BK475 := zK BK475 hb; replace HB := zB HB hb; (try clear hb); (try clear hb2); (try clear hk); (try clear hi)
      refine hK.out _ _ ⟨(kC BK475.out 0).trans rfl, (kC BK475.out 1).trans rfl, (kC BK450.out 0).trans rfl, (kC BK450.out 1).trans rfl⟩ (fun hHeld => ?_)
      clear hK K
      refine norm_ (a' := ?_) ?_ ?_
      rotate_left
      ·show Act.put _ (some 76) _ = _
       simp only [Act.put, List.setIfInBounds_toArray, List.set_cons_zero, List.set_cons_succ, i64_w, i32_w]
       rfl
      refine pure_ (i := 4) (N := some 77) (v := ?_) (a' := ?_) #[true, true, true, true, true] rfl rfl (by kernel_rfl) (fun _ _ _ h => h) (Or.inl ⟨by rfl, ?_⟩) ?_ ?_
      rotate_left
      ·intro w'
       go_simp
       with_reducible rfl
      rotate_left
      ·simp only [Act.put, List.setIfInBounds_toArray, List.set_cons_zero, List.set_cons_succ, i64_w, i32_w]
       rfl
      refine done_ (by kernel_rfl) ?_
      go_upto_region 27 with (first | ((with_reducible refine gC (f := 19) rfl ?_); refine zJ (some 80) Try.func19 #[.slice A2 l2.length c2] ?_; (with_reducible refine (laws_toIntSS.calls kj25 _ _ l2 t494 _ ?side1 ?side2 A62.out).mono ?_); (case side1 => exact zC HR2 HB); (case side2 => exact HC2.out); rintro e w77 ⟨v495, rfl, ho0, hb⟩; refine ⟨_, rfl, ?_⟩; have HO496 := A0_ (Kd.S_lower (Kd.S_new' (Kd.S_new' (Kd.S_new' (Kd.S_new' (Kd.S_new' (Kd.S_new' (Kd.S_new' (Kd.S_new' ho0 (Kd.S_lt (zS_ HO_12))) (Kd.S_lt (zS_ HO_15))) (rX (zR_ HO_16))) (Kd.S_lt (zS_ HO_17))) (rX (zR_ HO_476000))) (rX (zR_ HO_476001))) (rX (zR_ HO489))) (rX (zR_ HO492))) (bZ (zB_ HB))); replace HO_12 := A0_ (Kd.S_elder' (zS_ HO_12) (Kd.S_base ho0) hb); replace HO_15 := A0_ (Kd.S_elder' (zS_ HO_15) (Kd.S_base ho0) hb); replace HO_16 := zR HO_16 hb; replace HO_17 := A0_ (Kd.S_elder' (zS_ HO_17) (Kd.S_base ho0) hb); replace HO_476000 := zR HO_476000 hb; replace HO_476001 := zR HO_476001 hb; replace HO489 := zR HO489 hb; replace HO492 := zR HO492 hb; replace BK450 := zK BK450 hb; replace BK475 := zK BK475 hb; replace HB := zB HB hb; (try clear hb); (try clear ho0); obtain ⟨Ao78, co78, eo78⟩ := Kd.S_slice HO496.out; subst eo78) | ((with_reducible refine gC (f := 22) rfl ?_); refine zJ (some 81) Try.func22 #[.slice Ao49 t476.length co49, .slice Ao78 t494.length co78] ?_; (with_reducible refine (laws_eqIntSS.calls kj25 _ _ t476 _ _ t494 true _ ?side1 ?side2 ?side3 ?side4 A63.out).mono ?_); (case side1 => exact zDS HO_15); (case side2 => exact (Kd.S_reads' HO_15.out).2.1); (case side3 => exact zDS HO496); (case side4 => exact (Kd.S_reads' HO496.out).2.1); rintro e w' ⟨rfl, ⟨nd, rfl⟩⟩; refine ⟨_, rfl, ?_⟩) | ((with_reducible refine gC (f := 29) rfl ?_); refine zJ (some 85) Try.func29 #[.slice A4 l4.length c4] ?_; (with_reducible refine (laws_toIntS.calls kj25 _ _ l4 t498 _ ?side1 ?side2 A65.out).mono ?_); (case side1 => repeat (first | exact (cB HR4.out (zB_ HB)) | (with_reducible refine cA ?_ _))); (case side2 => exact HC4.out); rintro e w79 ⟨v499, rfl, ho0, hb⟩; refine ⟨_, rfl, ?_⟩; replace HO_12 := A0_ (Kd.S_elder' (zS_ HO_12) (Kd.R_base ho0) hb); replace HO_15 := A0_ (Kd.S_elder' (zS_ HO_15) (Kd.R_base ho0) hb); replace HO_17 := A0_ (Kd.S_elder' (zS_ HO_17) (Kd.R_base ho0) hb); replace HO496 := A0_ (Kd.S_elder' (zS_ HO496) (Kd.R_base ho0) hb); have HO500 := A0_ (rL (Kd.R_new' (Kd.R_new' (Kd.R_new' (Kd.R_new' (Kd.R_new' ho0 (rX (zR_ HO_16))) (rX (zR_ HO_476000))) (rX (zR_ HO_476001))) (rX (zR_ HO489))) (rX (zR_ HO492))) (bZ (zB_ HB))); replace HO_16 := A0_ (Kd.R_elder' (zR_ HO_16) (Kd.R_base ho0) hb); replace HO_476000 := A0_ (Kd.R_elder' (zR_ HO_476000) (Kd.R_base ho0) hb); replace HO_476001 := A0_ (Kd.R_elder' (zR_ HO_476001) (Kd.R_base ho0) hb); replace HO489 := A0_ (Kd.R_elder' (zR_ HO489) (Kd.R_base ho0) hb); replace HO492 := A0_ (Kd.R_elder' (zR_ HO492) (Kd.R_base ho0) hb); replace BK450 := zK BK450 hb; replace BK475 := zK BK475 hb; replace HB := zB HB hb; (try clear hb); (try clear ho0); obtain ⟨Ao80, co80, eo80⟩ := rS HO500.out; subst eo80) | ((with_reducible refine gC (f := 31) rfl ?_); refine zJ (some 86) Try.func31 #[.slice Ao50 t479.length co50, .slice Ao80 t498.length co80] ?_; (with_reducible refine (laws_eqIntS.calls kj25 _ _ t479 _ _ t498 true _ ?side1 ?side2 ?side3 ?side4 A66.out).mono ?_); (case side1 => exact zD HO_16); (case side2 => exact (rR HO_16.out).2.1); (case side3 => exact zD HO500); (case side4 => exact (rR HO500.out).2.1); rintro e w' ⟨rfl, ⟨nd, rfl⟩⟩; refine ⟨_, rfl, ?_⟩; have hnb81 := NB475_450.out; have hnc81 := NB450_475.out; have hcz82_0 := zc0 BK475; have hcz82_1 := zc1 BK475; have hfz82_0 := kF BK475.out 0; have hfz82_1 := kF BK475.out 1) | ((with_reducible refine gC (f := 25) rfl ?_); refine zJ (some 90) Try.func25 #[.agg #[.slice Ao42 t469.length co42, .slice Ao45 t472.length co45], .int .i64 1] ?_; (with_reducible refine (laws_markMap.calls kj25 (fun k_ => some k_ = (.slice Ao42 t469.length co42 : Value).ownBlock) (.slice Ao42 t469.length co42) t469 (fun k_ => some k_ = (.slice Ao45 t472.length co45 : Value).ownBlock) (.slice Ao45 t472.length co45) t472 1 t502 t503 t504 w _ ?side1 ?side2 ?side3 ?side4 ?side5 A68.out).mono ?_); (case side1 => repeat (first | (with_reducible first | exact HB.out | apply bA | apply bN | apply bD | refine bS ?_ GE450.out | refine bS ?_ GE475.out) | exact HB.out)); (case side2 => exact Kd.R_tight rfl HO_476000.out); (case side3 => exact fun k_ e_ => (HO_476000.out.1 k_ e_.symm).1.1.1.2); (case side4 => exact Kd.R_tight rfl HO_476001.out); (case side5 => exact fun k_ e_ => (HO_476001.out.1 k_ e_.symm).1.1.1.2); rintro e w83 ⟨rfl, hy0, hy1, hb, hkp⟩; refine ⟨_, rfl, ?_⟩; replace HO_12 := A0_ (sM (ok' := fun k_ => some k_ ≠ (.slice Ao49 t476.length co49 : Value).ownBlock ∧ some k_ ≠ (.slice Ao50 t479.length co50 : Value).ownBlock ∧ some k_ ≠ (v483 : Value).ownBlock ∧ some k_ ≠ (.slice Ao42 t469.length co42 : Value).ownBlock ∧ some k_ ≠ (.slice Ao45 t472.length co45 : Value).ownBlock ∧ some k_ ≠ (.slice Ao74 t487.length co74 : Value).ownBlock ∧ some k_ ≠ (.slice Ao75 t490.length co75 : Value).ownBlock ∧ some k_ ≠ (.slice Ao78 t494.length co78 : Value).ownBlock ∧ some k_ ≠ (.slice Ao80 t498.length co80 : Value).ownBlock ∧ k_ < M1_ ∧ k_ < M2_) (Kd.S_keptB (HO_12.out) hkp (fun k_ hk_ hs_ => Or.elim hs_ (fun e_ => (hk_.1.1.1.1.2.2.2.1) e_) (fun e_ => (hk_.1.1.1.1.2.2.2.2.1) e_))) (fun k_ hk_ => ⟨hk_.1.1.1.1.1.1, hk_.1.1.1.1.1.2.1, hk_.1.1.1.1.1.2.2.1, hk_.1.1.1.1.1.2.2.2.1, hk_.1.1.1.1.1.2.2.2.2.1, hk_.1.1.1.1.2, hk_.1.1.1.2, hk_.1.1.2, hk_.1.2, hk_.1.1.1.1.1.2.2.2.2.2⟩)); replace HO_15 := A0_ (sM (ok' := fun k_ => some k_ ≠ (v466 : Value).ownBlock ∧ some k_ ≠ (.slice Ao50 t479.length co50 : Value).ownBlock ∧ some k_ ≠ (v483 : Value).ownBlock ∧ some k_ ≠ (.slice Ao42 t469.length co42 : Value).ownBlock ∧ some k_ ≠ (.slice Ao45 t472.length co45 : Value).ownBlock ∧ some k_ ≠ (.slice Ao74 t487.length co74 : Value).ownBlock ∧ some k_ ≠ (.slice Ao75 t490.length co75 : Value).ownBlock ∧ some k_ ≠ (.slice Ao78 t494.length co78 : Value).ownBlock ∧ some k_ ≠ (.slice Ao80 t498.length co80 : Value).ownBlock ∧ M1_ ≤ k_ ∧ k_ < M2_) (Kd.S_keptB (HO_15.out) hkp (fun k_ hk_ hs_ => Or.elim hs_ (fun e_ => (hk_.1.1.1.1.2.2.2.1) e_) (fun e_ => (hk_.1.1.1.1.2.2.2.2.1) e_))) (fun k_ hk_ => ⟨hk_.1.1.1.1.1.1, hk_.1.1.1.1.1.2.1, hk_.1.1.1.1.1.2.2.1, hk_.1.1.1.1.1.2.2.2.1, hk_.1.1.1.1.1.2.2.2.2.1, hk_.1.1.1.1.2, hk_.1.1.1.2, hk_.1.1.2, hk_.1.2, hk_.1.1.1.1.1.2.2.2.2.2⟩)); replace HO_16 := A0_ (rM (ok' := fun k_ => some k_ ≠ (.slice Ao42 t469.length co42 : Value).ownBlock ∧ some k_ ≠ (.slice Ao45 t472.length co45 : Value).ownBlock ∧ some k_ ≠ (.slice Ao74 t487.length co74 : Value).ownBlock ∧ some k_ ≠ (.slice Ao75 t490.length co75 : Value).ownBlock ∧ some k_ ≠ (.slice Ao80 t498.length co80 : Value).ownBlock) (Kd.R_keptB (HO_16.out) hkp (fun k_ hk_ hs_ => Or.elim hs_ (fun e_ => (hk_.1.1.1.1) e_) (fun e_ => (hk_.1.1.1.2) e_))) (fun k_ hk_ => ⟨hk_.1.1.1.1.1, hk_.1.1.1.1.2, hk_.1.1.1.2, hk_.1.1.2, hk_.1.2⟩)); replace HO_17 := A0_ (sM (ok' := fun k_ => some k_ ≠ (v466 : Value).ownBlock ∧ some k_ ≠ (.slice Ao49 t476.length co49 : Value).ownBlock ∧ some k_ ≠ (.slice Ao50 t479.length co50 : Value).ownBlock ∧ some k_ ≠ (.slice Ao42 t469.length co42 : Value).ownBlock ∧ some k_ ≠ (.slice Ao45 t472.length co45 : Value).ownBlock ∧ some k_ ≠ (.slice Ao74 t487.length co74 : Value).ownBlock ∧ some k_ ≠ (.slice Ao75 t490.length co75 : Value).ownBlock ∧ some k_ ≠ (.slice Ao78 t494.length co78 : Value).ownBlock ∧ some k_ ≠ (.slice Ao80 t498.length co80 : Value).ownBlock ∧ M2_ ≤ k_) (Kd.S_keptB (HO_17.out) hkp (fun k_ hk_ hs_ => Or.elim hs_ (fun e_ => (hk_.1.1.1.1.2.2.2.1) e_) (fun e_ => (hk_.1.1.1.1.2.2.2.2.1) e_))) (fun k_ hk_ => ⟨hk_.1.1.1.1.1.1, hk_.1.1.1.1.1.2.1, hk_.1.1.1.1.1.2.2.1, hk_.1.1.1.1.1.2.2.2.1, hk_.1.1.1.1.1.2.2.2.2.1, hk_.1.1.1.1.2, hk_.1.1.1.2, hk_.1.1.2, hk_.1.2, hk_.1.1.1.1.1.2.2.2.2.2⟩)); replace BK450 := A0_ (blk_kept (zK_ BK450) hkp (fun hs_ => Or.elim hs_ (fun e_ => (fun e_ => (Kd.R_ne HO_476000.out BK450.out (by decide)) e_) e_) (fun e_ => (fun e_ => (Kd.R_ne HO_476001.out BK450.out (by decide)) e_) e_))); replace BK475 := A0_ (blk_kept (zK_ BK475) hkp (fun hs_ => Or.elim hs_ (fun e_ => (fun e_ => (Kd.R_ne HO_476000.out BK475.out (by decide)) e_) e_) (fun e_ => (fun e_ => (Kd.R_ne HO_476001.out BK475.out (by decide)) e_) e_))); replace HO_476000 := A0_ (Kd.R_reok rfl hy0 (fun k_ e_ => HO_476000.out.1 k_ e_)); replace HO_476001 := A0_ (Kd.R_reok rfl hy1 (fun k_ e_ => HO_476001.out.1 k_ e_)); replace HO489 := A0_ (rM (ok' := fun k_ => some k_ ≠ (.slice Ao50 t479.length co50 : Value).ownBlock ∧ some k_ ≠ (.slice Ao42 t469.length co42 : Value).ownBlock ∧ some k_ ≠ (.slice Ao45 t472.length co45 : Value).ownBlock ∧ some k_ ≠ (.slice Ao75 t490.length co75 : Value).ownBlock ∧ some k_ ≠ (.slice Ao80 t498.length co80 : Value).ownBlock) (Kd.R_keptB (HO489.out) hkp (fun k_ hk_ hs_ => Or.elim hs_ (fun e_ => (hk_.1.1.2) e_) (fun e_ => (hk_.1.2) e_))) (fun k_ hk_ => ⟨hk_.1.1.1.1.2, hk_.1.1.1.2, hk_.1.1.2, hk_.1.1.1.1.1, hk_.1.2⟩)); replace HO492 := A0_ (rM (ok' := fun k_ => some k_ ≠ (.slice Ao50 t479.length co50 : Value).ownBlock ∧ some k_ ≠ (.slice Ao42 t469.length co42 : Value).ownBlock ∧ some k_ ≠ (.slice Ao45 t472.length co45 : Value).ownBlock ∧ some k_ ≠ (.slice Ao74 t487.length co74 : Value).ownBlock ∧ some k_ ≠ (.slice Ao80 t498.length co80 : Value).ownBlock) (Kd.R_keptB (HO492.out) hkp (fun k_ hk_ hs_ => Or.elim hs_ (fun e_ => (hk_.1.1.2) e_) (fun e_ => (hk_.1.2) e_))) (fun k_ hk_ => ⟨hk_.1.1.1.1.2, hk_.1.1.1.2, hk_.1.1.2, hk_.1.1.1.1.1, hk_.1.2⟩)); replace HO496 := A0_ (sM (ok' := fun k_ => some k_ ≠ (v466 : Value).ownBlock ∧ some k_ ≠ (.slice Ao49 t476.length co49 : Value).ownBlock ∧ some k_ ≠ (.slice Ao50 t479.length co50 : Value).ownBlock ∧ some k_ ≠ (v483 : Value).ownBlock ∧ some k_ ≠ (.slice Ao42 t469.length co42 : Value).ownBlock ∧ some k_ ≠ (.slice Ao45 t472.length co45 : Value).ownBlock ∧ some k_ ≠ (.slice Ao74 t487.length co74 : Value).ownBlock ∧ some k_ ≠ (.slice Ao75 t490.length co75 : Value).ownBlock ∧ some k_ ≠ (.slice Ao80 t498.length co80 : Value).ownBlock) (Kd.S_keptB (HO496.out) hkp (fun k_ hk_ hs_ => Or.elim hs_ (fun e_ => (hk_.1.1.1.1.2) e_) (fun e_ => (hk_.1.1.1.2) e_))) (fun k_ hk_ => ⟨hk_.1.1.1.1.1.1.1.1.1.2, hk_.1.1.1.1.1.1.1.1.2, hk_.1.1.1.1.1.1.1.2, hk_.1.1.1.1.1.1.2, hk_.1.1.1.1.1.2, hk_.1.1.1.1.2, hk_.1.1.1.2, hk_.1.1.2, hk_.1.2⟩)); replace HO500 := A0_ (rM (ok' := fun k_ => some k_ ≠ (.slice Ao50 t479.length co50 : Value).ownBlock ∧ some k_ ≠ (.slice Ao42 t469.length co42 : Value).ownBlock ∧ some k_ ≠ (.slice Ao45 t472.length co45 : Value).ownBlock ∧ some k_ ≠ (.slice Ao74 t487.length co74 : Value).ownBlock ∧ some k_ ≠ (.slice Ao75 t490.length co75 : Value).ownBlock) (Kd.R_keptB (HO500.out) hkp (fun k_ hk_ hs_ => Or.elim hs_ (fun e_ => (hk_.1.1.1.2) e_) (fun e_ => (hk_.1.1.2) e_))) (fun k_ hk_ => ⟨hk_.1.1.1.1.1.2, hk_.1.1.1.1.2, hk_.1.1.1.2, hk_.1.1.2, hk_.1.2⟩)); replace HB := A0_ (hb); (try clear hb); (try clear hkp); (try clear hy0); (try clear hy1)) | ((with_reducible refine gC (f := 26) rfl ?_); refine zJ (some 93) Try.func26 #[.slice Ao49 t476.length co49, .int .i64 t502] ?_; have hS_ := Kd.S_bound HO_15.out; refine (laws_markIntSS.calls kj25 _ _ t476 t502 t505 zs w _ (zB_ HB) (by (with_reducible repeat apply sA); exact hS_) A69.out).mono ?_; rintro e w84 ⟨rfl, hy_, hb, hkp⟩; refine ⟨_, rfl, ?_⟩; replace HO_12 := A0_ (sM (Kd.S_keptB (zS_ HO_12) hkp (fun k_ hk_ hs_ => by exact absurd hk_.2.2.2.2.2.2.2.2.2.1 (Nat.not_lt.2 hs_.1.2.2.2.2.2.2.2.2.2.1))) (fun _ hk => hk.1)); replace HO_15 := A0_ hy_; replace HO_16 := A0_ (Kd.R_reok rfl (Kd.R_keptB (Kd.R_tight rfl (zR_ HO_16)) hkp (fun k_ hk_ hs_ => (by have h_ := hs_.1; repeat (first | exact h_.1 hk_ | exact h_ hk_ | replace h_ := h_.2)))) (fun k_ e_ => HO_16.out.1 k_ e_)); replace HO_17 := A0_ (sM (Kd.S_keptB (zS_ HO_17) hkp (fun k_ hk_ hs_ => by exact absurd hs_.1.2.2.2.2.2.2.2.2.2.2 (Nat.not_lt.2 hk_.2.2.2.2.2.2.2.2.2))) (fun _ hk => hk.1)); replace HO_476000 := A0_ (Kd.R_reok rfl (Kd.R_keptB (Kd.R_tight rfl (zR_ HO_476000)) hkp (fun k_ hk_ hs_ => (by have h_ := hs_.1; repeat (first | exact h_.1 hk_ | exact h_ hk_ | replace h_ := h_.2)))) (fun k_ e_ => HO_476000.out.1 k_ e_)); replace HO_476001 := A0_ (Kd.R_reok rfl (Kd.R_keptB (Kd.R_tight rfl (zR_ HO_476001)) hkp (fun k_ hk_ hs_ => (by have h_ := hs_.1; repeat (first | exact h_.1 hk_ | exact h_ hk_ | replace h_ := h_.2)))) (fun k_ e_ => HO_476001.out.1 k_ e_)); replace HO489 := A0_ (Kd.R_reok rfl (Kd.R_keptB (Kd.R_tight rfl (zR_ HO489)) hkp (fun k_ hk_ hs_ => (by have h_ := hs_.1; repeat (first | exact h_.1 hk_ | exact h_ hk_ | replace h_ := h_.2)))) (fun k_ e_ => HO489.out.1 k_ e_)); replace HO492 := A0_ (Kd.R_reok rfl (Kd.R_keptB (Kd.R_tight rfl (zR_ HO492)) hkp (fun k_ hk_ hs_ => (by have h_ := hs_.1; repeat (first | exact h_.1 hk_ | exact h_ hk_ | replace h_ := h_.2)))) (fun k_ e_ => HO492.out.1 k_ e_)); replace HO496 := A0_ True.intro; replace HO500 := A0_ (Kd.R_reok rfl (Kd.R_keptB (Kd.R_tight rfl (zR_ HO500)) hkp (fun k_ hk_ hs_ => (by have h_ := hs_.1; repeat (first | exact h_.1 hk_ | exact h_ hk_ | replace h_ := h_.2)))) (fun k_ e_ => HO500.out.1 k_ e_)); replace BK450 := A0_ (blk_kept (zK_ BK450) hkp (fun hs_ => by obtain ⟨_, _, _, q_, hq_, cs_, hc_⟩ := hs_; have e_ := BK450.out.symm.trans hc_; injection e_ with e_; injection e_ with _ e2_ _; subst e2_; exact absurd hq_ (by decide))); replace BK475 := A0_ (blk_kept (zK_ BK475) hkp (fun hs_ => by obtain ⟨_, _, _, q_, hq_, cs_, hc_⟩ := hs_; have e_ := BK475.out.symm.trans hc_; injection e_ with e_; injection e_ with _ e2_ _; subst e2_; exact absurd hq_ (by decide))); replace HB := A0_ (hb); (try clear hb); (try clear hkp); (try clear hS_); (try clear hy_)) | ((with_reducible refine gC (f := 32) rfl ?_); refine zJ (some 96) Try.func32 #[.slice Ao50 t479.length co50, .int .i64 t505] ?_; (with_reducible refine (laws_markIntS.calls kj25 (fun k_ => some k_ = (.slice Ao50 t479.length co50 : Value).ownBlock) (.slice Ao50 t479.length co50) t479 t505 t506 t507 w _ ?side1 ?side2 A70.out).mono ?_); (case side1 => repeat (first | (with_reducible first | exact HB.out | apply bA | apply bN | apply bD | refine bS ?_ GE450.out | refine bS ?_ GE475.out) | exact HB.out)); (case side2 => exact Kd.R_tight rfl HO_16.out); rintro e w85 ⟨rfl, hy0, hb, hkp⟩; refine ⟨_, rfl, ?_⟩; replace HO_12 := A0_ (sM (ok' := fun k_ => some k_ ≠ (.slice Ao49 t476.length co49 : Value).ownBlock ∧ some k_ ≠ (.slice Ao50 t479.length co50 : Value).ownBlock ∧ some k_ ≠ (v483 : Value).ownBlock ∧ some k_ ≠ (.slice Ao42 t469.length co42 : Value).ownBlock ∧ some k_ ≠ (.slice Ao45 t472.length co45 : Value).ownBlock ∧ some k_ ≠ (.slice Ao74 t487.length co74 : Value).ownBlock ∧ some k_ ≠ (.slice Ao75 t490.length co75 : Value).ownBlock ∧ some k_ ≠ (.slice Ao78 t494.length co78 : Value).ownBlock ∧ some k_ ≠ (.slice Ao80 t498.length co80 : Value).ownBlock ∧ k_ < M1_ ∧ k_ < M2_) (Kd.S_keptB (HO_12.out) hkp (fun k_ hk_ hs_ => (hk_.2.1) hs_)) (fun k_ hk_ => ⟨hk_.1.1, hk_.1.2.1, hk_.1.2.2.1, hk_.1.2.2.2.1, hk_.1.2.2.2.2.1, hk_.1.2.2.2.2.2.1, hk_.1.2.2.2.2.2.2.1, hk_.1.2.2.2.2.2.2.2.1, hk_.1.2.2.2.2.2.2.2.2.1, hk_.1.2.2.2.2.2.2.2.2.2⟩)); replace HO_15 := A0_ True.intro; replace HO_17 := A0_ (sM (ok' := fun k_ => some k_ ≠ (v466 : Value).ownBlock ∧ some k_ ≠ (.slice Ao49 t476.length co49 : Value).ownBlock ∧ some k_ ≠ (.slice Ao50 t479.length co50 : Value).ownBlock ∧ some k_ ≠ (.slice Ao42 t469.length co42 : Value).ownBlock ∧ some k_ ≠ (.slice Ao45 t472.length co45 : Value).ownBlock ∧ some k_ ≠ (.slice Ao74 t487.length co74 : Value).ownBlock ∧ some k_ ≠ (.slice Ao75 t490.length co75 : Value).ownBlock ∧ some k_ ≠ (.slice Ao78 t494.length co78 : Value).ownBlock ∧ some k_ ≠ (.slice Ao80 t498.length co80 : Value).ownBlock ∧ M2_ ≤ k_) (Kd.S_keptB (HO_17.out) hkp (fun k_ hk_ hs_ => (hk_.2.2.1) hs_)) (fun k_ hk_ => ⟨hk_.1.1, hk_.1.2.1, hk_.1.2.2.1, hk_.1.2.2.2.1, hk_.1.2.2.2.2.1, hk_.1.2.2.2.2.2.1, hk_.1.2.2.2.2.2.2.1, hk_.1.2.2.2.2.2.2.2.1, hk_.1.2.2.2.2.2.2.2.2.1, hk_.1.2.2.2.2.2.2.2.2.2⟩)); replace HO_476000 := A0_ (rM (ok' := fun k_ => some k_ ≠ (.slice Ao50 t479.length co50 : Value).ownBlock ∧ some k_ ≠ (.slice Ao45 t472.length co45 : Value).ownBlock ∧ some k_ ≠ (.slice Ao74 t487.length co74 : Value).ownBlock ∧ some k_ ≠ (.slice Ao75 t490.length co75 : Value).ownBlock ∧ some k_ ≠ (.slice Ao80 t498.length co80 : Value).ownBlock) (Kd.R_keptB (HO_476000.out) hkp (fun k_ hk_ hs_ => (hk_.1.1.1.1) hs_)) (fun k_ hk_ => ⟨hk_.1.1.1.1.1, hk_.1.1.1.1.2, hk_.1.1.1.2, hk_.1.1.2, hk_.1.2⟩)); replace HO_476001 := A0_ (rM (ok' := fun k_ => some k_ ≠ (.slice Ao50 t479.length co50 : Value).ownBlock ∧ some k_ ≠ (.slice Ao42 t469.length co42 : Value).ownBlock ∧ some k_ ≠ (.slice Ao74 t487.length co74 : Value).ownBlock ∧ some k_ ≠ (.slice Ao75 t490.length co75 : Value).ownBlock ∧ some k_ ≠ (.slice Ao80 t498.length co80 : Value).ownBlock) (Kd.R_keptB (HO_476001.out) hkp (fun k_ hk_ hs_ => (hk_.1.1.1.1) hs_)) (fun k_ hk_ => ⟨hk_.1.1.1.1.1, hk_.1.1.1.1.2, hk_.1.1.1.2, hk_.1.1.2, hk_.1.2⟩)); replace BK450 := A0_ (blk_kept (zK_ BK450) hkp (fun hs_ => (fun e_ => (Kd.R_ne HO_16.out BK450.out (by decide)) e_) hs_)); replace BK475 := A0_ (blk_kept (zK_ BK475) hkp (fun hs_ => (fun e_ => (Kd.R_ne HO_16.out BK475.out (by decide)) e_) hs_)); replace HO_16 := A0_ (Kd.R_reok rfl hy0 (fun k_ e_ => HO_16.out.1 k_ e_)); replace HO489 := A0_ (rM (ok' := fun k_ => some k_ ≠ (.slice Ao50 t479.length co50 : Value).ownBlock ∧ some k_ ≠ (.slice Ao42 t469.length co42 : Value).ownBlock ∧ some k_ ≠ (.slice Ao45 t472.length co45 : Value).ownBlock ∧ some k_ ≠ (.slice Ao75 t490.length co75 : Value).ownBlock ∧ some k_ ≠ (.slice Ao80 t498.length co80 : Value).ownBlock) (Kd.R_keptB (HO489.out) hkp (fun k_ hk_ hs_ => (hk_.1) hs_)) (fun k_ hk_ => ⟨hk_.1.1, hk_.1.2.1, hk_.1.2.2.1, hk_.1.2.2.2.1, hk_.1.2.2.2.2⟩)); replace HO492 := A0_ (rM (ok' := fun k_ => some k_ ≠ (.slice Ao50 t479.length co50 : Value).ownBlock ∧ some k_ ≠ (.slice Ao42 t469.length co42 : Value).ownBlock ∧ some k_ ≠ (.slice Ao45 t472.length co45 : Value).ownBlock ∧ some k_ ≠ (.slice Ao74 t487.length co74 : Value).ownBlock ∧ some k_ ≠ (.slice Ao80 t498.length co80 : Value).ownBlock) (Kd.R_keptB (HO492.out) hkp (fun k_ hk_ hs_ => (hk_.1) hs_)) (fun k_ hk_ => ⟨hk_.1.1, hk_.1.2.1, hk_.1.2.2.1, hk_.1.2.2.2.1, hk_.1.2.2.2.2⟩)); replace HO496 := A0_ True.intro; replace HO500 := A0_ (rM (ok' := fun k_ => some k_ ≠ (.slice Ao50 t479.length co50 : Value).ownBlock ∧ some k_ ≠ (.slice Ao42 t469.length co42 : Value).ownBlock ∧ some k_ ≠ (.slice Ao45 t472.length co45 : Value).ownBlock ∧ some k_ ≠ (.slice Ao74 t487.length co74 : Value).ownBlock ∧ some k_ ≠ (.slice Ao75 t490.length co75 : Value).ownBlock) (Kd.R_keptB (HO500.out) hkp (fun k_ hk_ hs_ => (hk_.1) hs_)) (fun k_ hk_ => ⟨hk_.1.1, hk_.1.2.1, hk_.1.2.2.1, hk_.1.2.2.2.1, hk_.1.2.2.2.2⟩)); replace HB := A0_ (hb); (try clear hb); (try clear hkp); (try clear hy0)))
      (try simp only [Act.put, List.setIfInBounds_toArray, List.set_cons_zero, List.set_cons_succ])
      go_cut [109] (fun v109 wc => ∃ (kq : Nat) (x109_70 : Bool) (M2_ : Nat), v109 = .bool x109_70 ∧ Aside0 (laws_FnExactCoverConj.j1 kq a1 l2 a3 l4 t465 t468 t482 x109_70 l0_0 l0_1 = some r) ∧ Aside0 (kq ≤ kj25) ∧ Aside0 (Kd.S (Kd.slice 3 (Kd.int .i64)) 22 wc w.heap.size (fun k_ => some k_ ≠ (v483 : Value).ownBlock ∧ some k_ ≠ ((.slice Ao42 t469.length co42) : Value).ownBlock ∧ some k_ ≠ ((.slice Ao45 t472.length co45) : Value).ownBlock ∧ k_ < M2_) v466 t465) ∧ Aside0 (Kd.S (Kd.slice 3 (Kd.int .i64)) 22 wc w.heap.size (fun k_ => some k_ ≠ (v466 : Value).ownBlock ∧ some k_ ≠ ((.slice Ao42 t469.length co42) : Value).ownBlock ∧ some k_ ≠ ((.slice Ao45 t472.length co45) : Value).ownBlock ∧ M2_ ≤ k_) v483 t482) ∧ Aside0 (Kd.R (Kd.int .i64) 3 wc w.heap.size (fun k_ => some k_ ≠ ((.slice Ao45 t472.length co45) : Value).ownBlock) (.slice Ao42 t469.length co42) t503) ∧ Aside0 (Kd.R (Kd.int .i64) 3 wc w.heap.size (fun k_ => some k_ ≠ ((.slice Ao42 t469.length co42) : Value).ownBlock) (.slice Ao45 t472.length co45) t504) ∧ Aside0 (wc.heap[gb450]? = some (.cells #[(.slice A0_0 l0_0.length c0_0), (.slice A0_1 l0_1.length c0_1)] 24 (0, 0))) ∧ Aside0 (wc.heap[gb475]? = some (.cells #[(.slice Ao42 t469.length co42), (.slice Ao45 t472.length co45)] 29 (0, 0))) ∧ Aside0 (Below w.heap.size w wc))
      case first =>
       have H := HC71.out; clear HC71
       by_cases c86 : t506 < 0
       ·rw [if_pos c86] at H
        have c86b0 := dT c86; clear c86
        (first | rw [c86b0] | (simp only [i64_w, i32_w]; rw [c86b0]) | skip)
        have H' := A0_ H; clear H
        go_wp2
        go_meet
        case rel => exact ⟨_, (true), M2_, zt, H', ⟨by have := HJ25.out; first | omega | exact Nat.le_refl _⟩, ⟨zmS HO_12 (fun _ hk => ⟨hk.2.2.1, hk.2.2.2.1, hk.2.2.2.2.1, hk.2.2.2.2.2.2.2.2.2.2⟩)⟩, ⟨zmS HO_17 (fun _ hk => ⟨hk.1, hk.2.2.2.1, hk.2.2.2.2.1, hk.2.2.2.2.2.2.2.2.2⟩)⟩, ⟨zmR HO_476000 (fun _ hk => hk.2.1)⟩, ⟨zmR HO_476001 (fun _ hk => hk.2.1)⟩, ⟨zK_ BK450⟩, ⟨zK_ BK475⟩, ⟨zB_ HB⟩⟩
       rw [if_neg c86] at H; have c86b0 := dF c86; clear c86
       (first | rw [c86b0] | (simp only [i64_w, i32_w]; rw [c86b0]) | skip)
       obtain ⟨t508, A87, H⟩ := zbind H
       by_cases c88 : t508 = true
       ·subst c88
        rw [if_pos rfl] at H; have H' := A0_ H; clear H; obtain ⟨Ao89, co89, eo89⟩ := Kd.S_slice HO_17.out; subst eo89; obtain ⟨Ao90, co90, eo90⟩ := Kd.S_slice HO_12.out; subst eo90
        go_wp2_with (first | (go_at_call 22; (with_reducible refine (laws_eqIntSS.calls kj25 _ _ t482 _ _ t465 true _ ?side1 ?side2 ?side3 ?side4 A87.out).mono ?_); (case side1 => exact zDS HO_17); (case side2 => exact (Kd.S_reads' HO_17.out).2.1); (case side3 => exact zDS HO_12); (case side4 => exact (Kd.S_reads' HO_12.out).2.1); rintro e w' ⟨rfl, ⟨nd, rfl⟩⟩))
        go_meet
        case rel => exact ⟨_, ((t485 != t468)), M2_, zt, H', ⟨by have := HJ25.out; first | omega | exact Nat.le_refl _⟩, ⟨zmS HO_12 (fun _ hk => ⟨hk.2.2.1, hk.2.2.2.1, hk.2.2.2.2.1, hk.2.2.2.2.2.2.2.2.2.2⟩)⟩, ⟨zmS HO_17 (fun _ hk => ⟨hk.1, hk.2.2.2.1, hk.2.2.2.2.1, hk.2.2.2.2.2.2.2.2.2⟩)⟩, ⟨zmR HO_476000 (fun _ hk => hk.2.1)⟩, ⟨zmR HO_476001 (fun _ hk => hk.2.1)⟩, ⟨zK_ BK450⟩, ⟨zK_ BK475⟩, ⟨zB_ HB⟩⟩
       replace c88 := Bool.eq_false_iff.mpr c88; subst c88
       rw [if_neg (show ¬ (false = true) by decide)] at H
       have H' := A0_ H; clear H; obtain ⟨Ao91, co91, eo91⟩ := Kd.S_slice HO_17.out; subst eo91; obtain ⟨Ao92, co92, eo92⟩ := Kd.S_slice HO_12.out; subst eo92
       go_wp2_with (first | (go_at_call 22; (with_reducible refine (laws_eqIntSS.calls kj25 _ _ t482 _ _ t465 false _ ?side1 ?side2 ?side3 ?side4 A87.out).mono ?_); (case side1 => exact zDS HO_17); (case side2 => exact (Kd.S_reads' HO_17.out).2.1); (case side3 => exact zDS HO_12); (case side4 => exact (Kd.S_reads' HO_12.out).2.1); rintro e w' ⟨rfl, ⟨nd, rfl⟩⟩))
       go_meet
       case rel => exact ⟨_, (true), M2_, zt, H', ⟨by have := HJ25.out; first | omega | exact Nat.le_refl _⟩, ⟨zmS HO_12 (fun _ hk => ⟨hk.2.2.1, hk.2.2.2.1, hk.2.2.2.2.1, hk.2.2.2.2.2.2.2.2.2.2⟩)⟩, ⟨zmS HO_17 (fun _ hk => ⟨hk.1, hk.2.2.2.1, hk.2.2.2.2.1, hk.2.2.2.2.2.2.2.2.2⟩)⟩, ⟨zmR HO_476000 (fun _ hk => hk.2.1)⟩, ⟨zmR HO_476001 (fun _ hk => hk.2.1)⟩, ⟨zK_ BK450⟩, ⟨zK_ BK475⟩, ⟨zB_ HB⟩⟩
      case rest =>
       clear HC71; (try clear c1); (try clear c2); (try clear p2); (try clear c3); (try clear c4); (try clear c5); (try clear c6); (try clear c6b0); (try clear c6b1); (try clear c8); (try clear c9); (try clear c9b0); (try clear c12); (try clear c14); (try clear c14b0); (try clear c15); (try clear c16); (try clear c18); (try clear c19); (try clear c21); (try clear c22); (try clear c25); (try clear c26); (try clear c29); (try clear c31); (try clear c32); (try clear c43); (try clear c47); (try clear c48); (try clear c53); (try clear c58); (try clear c61); (try clear c64); (try clear c67); (try clear c81); (try clear c86); (try clear c86b0); (try clear c88); (try clear hcz11_0); (try clear hcz11_1); (try clear hcz16_0); (try clear hcz16_1); (try clear hcz28_0); (try clear hcz28_1); (try clear hcz30_0); (try clear hcz30_1); (try clear hcz39_0); (try clear hcz39_1); (try clear hcz44_0); (try clear hcz44_1); (try clear hcz48_0); (try clear hcz48_1); (try clear hcz82_0); (try clear hcz82_1); (try clear hfz11_0); (try clear hfz11_1); (try clear hfz16_0); (try clear hfz16_1); (try clear hfz28_0); (try clear hfz28_1); (try clear hfz30_0); (try clear hfz30_1); (try clear hfz39_0); (try clear hfz39_1); (try clear hfz44_0); (try clear hfz44_1); (try clear hfz48_0); (try clear hfz48_1); (try clear hfz82_0); (try clear hfz82_1); (try clear p2); obtain ⟨kq, x109_70, M2_, rfl, HA, HJ70, HO_12, HO_17, HO_476000, HO_476001, BK450, BK475, HB⟩ := hcut; have hl476000_70 := (rR HO_476000.out).1; rw [hl476000_70] at HO_476000; (try simp only [hl476000_70]); (try simp only [hl476000_70] at BK450); (try simp only [hl476000_70] at BK475); (try simp only [hl476000_70] at HO_12); (try simp only [hl476000_70] at HO_17); (try simp only [hl476000_70] at HO_476001); have hl476001_70 := (rR HO_476001.out).1; rw [hl476001_70] at HO_476001; (try simp only [hl476001_70]); (try simp only [hl476001_70] at BK450); (try simp only [hl476001_70] at BK475); (try simp only [hl476001_70] at HO_12); (try simp only [hl476001_70] at HO_17); (try simp only [hl476001_70] at HO_476000)
       cases kq with
       | zero => exact absurd HA.out (by simp [laws_FnExactCoverConj.j1])
       | succ kj70 =>
        have H := HA.out; clear HA; simp only [laws_FnExactCoverConj.j1] at H
        by_cases c93 : x109_70 = true
        ·subst c93
         rw [if_pos rfl] at H; obtain rfl := sI H
         go_wp2
         go_ret
         exact ⟨by first | rfl | (simp [*] <;> rfl), zB_ HB⟩
        replace c93 := Bool.eq_false_iff.mpr c93; subst c93
        rw [if_neg (show ¬ (false = true) by decide)] at H
        replace H := Option.bind_eq_some_iff.mp H; obtain ⟨⟨t509, ys⟩, A940, H⟩ := H
        replace H : ((laws_heldIntSS.f kj70 ys 1).bind fun t510 => (if t510 < 0 then (some false) else (if t510 = t509 then ((laws_toMap.f kj70 l0_0 l0_1).bind fun bt511 => ((laws_toIntSS.f kj70 l2).bind fun t517 => ((laws_toIntS.f kj70 l4).bind fun t520 => ((impl_CoverConj.f kj70 bt511.1 bt511.2 a1 t517 a3 t520).bind fun bt523 => ((laws_eqIntSS.f kj70 bt523.1 t465).bind fun t527 => (if t527 = true then (laws_FnExactCoverConj.j2 kj70 ys t509 (bt523.2 != t468)) else (laws_FnExactCoverConj.j2 kj70 ys t509 true))))))) else (some false)))) = some r := H
        have A94 := A0_ A940; have HLY := A0_ (laws_markIntSS.go_len _ _ _ _ A940 : ys.length = t482.length)
        clear A940; obtain ⟨t510, A95, H⟩ := zbind H
        by_cases c96 : t510 < 0
        ·rw [if_pos c96] at H
         have c96b0 := dT c96; clear c96; obtain rfl := sI H; obtain ⟨Ao97, co97, eo97⟩ := Kd.S_slice HO_17.out; subst eo97
         go_wp2_with (first | ((with_reducible refine gC (f := 26) rfl ?_); refine zJ (some 112) Try.func26 #[.slice Ao97 t482.length co97, .int .i64 1] ?_; have hS_ := Kd.S_bound HO_17.out; refine (laws_markIntSS.calls kj70 _ _ t482 1 t509 ys w _ (zB_ HB) (by (with_reducible repeat apply sA); exact hS_) A94.out).mono ?_; rintro e w98 ⟨rfl, hy_, hb, hkp⟩; refine ⟨_, rfl, ?_⟩; replace HO_12 := A0_ (sM (Kd.S_keptB (zS_ HO_12) hkp (fun k_ hk_ hs_ => by exact absurd hk_.2.2.2 (Nat.not_lt.2 hs_.1.2.2.2))) (fun _ hk => hk.1)); replace HO_17 := A0_ hy_; replace HO_476000 := A0_ (Kd.R_reok rfl (Kd.R_keptB (Kd.R_tight rfl (zR_ HO_476000)) hkp (fun k_ hk_ hs_ => (by have h_ := hs_.1; repeat (first | exact h_.1 hk_ | exact h_ hk_ | replace h_ := h_.2)))) (fun k_ e_ => HO_476000.out.1 k_ e_)); replace HO_476001 := A0_ (Kd.R_reok rfl (Kd.R_keptB (Kd.R_tight rfl (zR_ HO_476001)) hkp (fun k_ hk_ hs_ => (by have h_ := hs_.1; repeat (first | exact h_.1 hk_ | exact h_ hk_ | replace h_ := h_.2)))) (fun k_ e_ => HO_476001.out.1 k_ e_)); replace BK450 := A0_ (blk_kept (zK_ BK450) hkp (fun hs_ => by obtain ⟨_, _, _, q_, hq_, cs_, hc_⟩ := hs_; have e_ := BK450.out.symm.trans hc_; injection e_ with e_; injection e_ with _ e2_ _; subst e2_; exact absurd hq_ (by decide))); replace BK475 := A0_ (blk_kept (zK_ BK475) hkp (fun hs_ => by obtain ⟨_, _, _, q_, hq_, cs_, hc_⟩ := hs_; have e_ := BK475.out.symm.trans hc_; injection e_ with e_; injection e_ with _ e2_ _; subst e2_; exact absurd hq_ (by decide))); replace HB := A0_ (hb); (try clear hb); (try clear hkp); (try clear hS_); (try clear hy_)) | ((with_reducible refine gC (f := 27) rfl ?_); refine zJ (some 115) Try.func27 #[.slice Ao97 t482.length co97, .int .i64 1] ?_; (with_reducible refine (laws_heldIntSS.calls2 HLY.out kj70 _ _ ys 1 t510 _ ?side1 ?side2 A95.out).mono ?_); (case side1 => exact zDS HO_17); (case side2 => exact (Kd.S_reads' HO_17.out).2.1); rintro e w' ⟨rfl, ⟨nd, rfl⟩⟩; refine ⟨_, rfl, ?_⟩))
         go_ret
         exact ⟨by first | rfl | (simp [*] <;> rfl), zB_ HB⟩
        rw [if_neg c96] at H; have c96b0 := dF c96; clear c96
        by_cases c99 : t510 = t509
        ·rw [if_pos c99] at H
         have c99b0 : (t510 == t509) = true := beq_iff_eq.mpr c99
         have c99b1 : (t510 != t509) = false := bne_eq_false_iff_eq.mpr c99
         clear c99; obtain ⟨⟨t511, t514⟩, A100, H⟩ := zbind H; dsimp only at H; obtain ⟨t517, A101, H⟩ := zbind H; obtain ⟨t520, A102, H⟩ := zbind H; obtain ⟨⟨t523, t526⟩, A103, H⟩ := zbind H; dsimp only at H; have HC104 := A0_ H; clear H; obtain ⟨Ao105, co105, eo105⟩ := Kd.S_slice HO_17.out; subst eo105
         go_upto_region 38 with (first | ((with_reducible refine gC (f := 26) rfl ?_); refine zJ (some 112) Try.func26 #[.slice Ao105 t482.length co105, .int .i64 1] ?_; have hS_ := Kd.S_bound HO_17.out; refine (laws_markIntSS.calls kj70 _ _ t482 1 t509 ys w _ (zB_ HB) (by (with_reducible repeat apply sA); exact hS_) A94.out).mono ?_; rintro e w106 ⟨rfl, hy_, hb, hkp⟩; refine ⟨_, rfl, ?_⟩; replace HO_12 := A0_ (sM (Kd.S_keptB (zS_ HO_12) hkp (fun k_ hk_ hs_ => by exact absurd hk_.2.2.2 (Nat.not_lt.2 hs_.1.2.2.2))) (fun _ hk => hk.1)); replace HO_17 := A0_ hy_; replace HO_476000 := A0_ (Kd.R_reok rfl (Kd.R_keptB (Kd.R_tight rfl (zR_ HO_476000)) hkp (fun k_ hk_ hs_ => (by have h_ := hs_.1; repeat (first | exact h_.1 hk_ | exact h_ hk_ | replace h_ := h_.2)))) (fun k_ e_ => HO_476000.out.1 k_ e_)); replace HO_476001 := A0_ (Kd.R_reok rfl (Kd.R_keptB (Kd.R_tight rfl (zR_ HO_476001)) hkp (fun k_ hk_ hs_ => (by have h_ := hs_.1; repeat (first | exact h_.1 hk_ | exact h_ hk_ | replace h_ := h_.2)))) (fun k_ e_ => HO_476001.out.1 k_ e_)); replace BK450 := A0_ (blk_kept (zK_ BK450) hkp (fun hs_ => by obtain ⟨_, _, _, q_, hq_, cs_, hc_⟩ := hs_; have e_ := BK450.out.symm.trans hc_; injection e_ with e_; injection e_ with _ e2_ _; subst e2_; exact absurd hq_ (by decide))); replace BK475 := A0_ (blk_kept (zK_ BK475) hkp (fun hs_ => by obtain ⟨_, _, _, q_, hq_, cs_, hc_⟩ := hs_; have e_ := BK475.out.symm.trans hc_; injection e_ with e_; injection e_ with _ e2_ _; subst e2_; exact absurd hq_ (by decide))); replace HB := A0_ (hb); (try clear hb); (try clear hkp); (try clear hS_); (try clear hy_)) | ((with_reducible refine gC (f := 27) rfl ?_); refine zJ (some 115) Try.func27 #[.slice Ao105 t482.length co105, .int .i64 1] ?_; (with_reducible refine (laws_heldIntSS.calls2 HLY.out kj70 _ _ ys 1 t510 _ ?side1 ?side2 A95.out).mono ?_); (case side1 => exact zDS HO_17); (case side2 => exact (Kd.S_reads' HO_17.out).2.1); rintro e w' ⟨rfl, ⟨nd, rfl⟩⟩; refine ⟨_, rfl, ?_⟩; have hnb107 := NB450_475.out; have hnc107 := NB475_450.out; have hcz108_0 := zc0 BK450; have hcz108_1 := zc1 BK450; have hfz108_0 := kF BK450.out 0; have hfz108_1 := kF BK450.out 1) | ((with_reducible refine gC (f := 18) rfl ?_); refine zJ (some 123) Try.func18 #[.agg #[.slice A0_0 l0_0.length c0_0, .slice A0_1 l0_1.length c0_1]] ?_; (with_reducible refine (laws_toMap.calls kj70 _ _ l0_0 _ _ l0_1 t511 t514 _ ?side1 ?side2 ?side3 ?side4 A100.out).mono ?_); (case side1 => repeat (first | exact (cB HR0_0.out (zB_ HB)) | (with_reducible refine cA ?_ _))); (case side2 => exact HC0_0.out); (case side3 => repeat (first | exact (cB HR0_1.out (zB_ HB)) | (with_reducible refine cA ?_ _))); (case side4 => exact HC0_1.out); rintro e w109 ⟨v512, v515, rfl, ho0, ho1, hb⟩; refine ⟨_, rfl, ?_⟩; replace HO_12 := A0_ (sM (Kd.S_told (Kd.S_told (Kd.S_old (zS_ HO_12) hb) (Kd.R_base ho0)) (Kd.R_base ho1)) (fun _ h_ => h_.1)); replace HO_17 := A0_ (sM (Kd.S_told (Kd.S_told (Kd.S_old (zS_ HO_17) hb) (Kd.R_base ho0)) (Kd.R_base ho1)) (fun _ h_ => h_.1)); have HO513 := A0_ (rL (Kd.R_new' (Kd.R_new' ho0 (rX (zR_ HO_476000))) (rX (zR_ HO_476001))) (bZ (zB_ HB))); have HO516 := A0_ (rL (Kd.R_new' (Kd.R_new' ho1 (rX (zR_ HO_476000))) (rX (zR_ HO_476001))) (bZ (zB_ HB))); replace HO_476000 := A0_ (rM (rT (rT (rO (zR_ HO_476000) hb) (Kd.R_base ho0)) (Kd.R_base ho1)) (fun _ h_ => h_.1)); replace HO_476001 := A0_ (rM (rT (rT (rO (zR_ HO_476001) hb) (Kd.R_base ho0)) (Kd.R_base ho1)) (fun _ h_ => h_.1)); replace BK450 := zK BK450 hb; replace BK475 := zK BK475 hb; replace HB := zB HB hb; (try clear hb); (try clear ho0); (try clear ho1)) | ((with_reducible refine gC (f := 19) rfl ?_); refine zJ (some 126) Try.func19 #[.slice A2 l2.length c2] ?_; (with_reducible refine (laws_toIntSS.calls kj70 _ _ l2 t517 _ ?side1 ?side2 A101.out).mono ?_); (case side1 => exact zC HR2 HB); (case side2 => exact HC2.out); rintro e w110 ⟨v518, rfl, ho0, hb⟩; refine ⟨_, rfl, ?_⟩; have HO519 := A0_ (Kd.S_lower (Kd.S_new' (Kd.S_new' (Kd.S_new' (Kd.S_new' (Kd.S_new' (Kd.S_new' ho0 (Kd.S_lt (zS_ HO_12))) (Kd.S_lt (zS_ HO_17))) (rX (zR_ HO_476000))) (rX (zR_ HO_476001))) (rX (zR_ HO513))) (rX (zR_ HO516))) (bZ (zB_ HB))); replace HO_12 := A0_ (Kd.S_elder' (zS_ HO_12) (Kd.S_base ho0) hb); replace HO_17 := A0_ (Kd.S_elder' (zS_ HO_17) (Kd.S_base ho0) hb); replace HO_476000 := zR HO_476000 hb; replace HO_476001 := zR HO_476001 hb; replace HO513 := zR HO513 hb; replace HO516 := zR HO516 hb; replace BK450 := zK BK450 hb; replace BK475 := zK BK475 hb; replace HB := zB HB hb; (try clear hb); (try clear ho0)) | ((with_reducible refine gC (f := 29) rfl ?_); refine zJ (some 129) Try.func29 #[.slice A4 l4.length c4] ?_; (with_reducible refine (laws_toIntS.calls kj70 _ _ l4 t520 _ ?side1 ?side2 A102.out).mono ?_); (case side1 => exact zC HR4 HB); (case side2 => exact HC4.out); rintro e w111 ⟨v521, rfl, ho0, hb⟩; refine ⟨_, rfl, ?_⟩; replace HO_12 := A0_ (Kd.S_elder' (zS_ HO_12) (Kd.R_base ho0) hb); replace HO_17 := A0_ (Kd.S_elder' (zS_ HO_17) (Kd.R_base ho0) hb); replace HO519 := A0_ (Kd.S_elder' (zS_ HO519) (Kd.R_base ho0) hb); have HO522 := A0_ (rL (Kd.R_new' (Kd.R_new' (Kd.R_new' (Kd.R_new' ho0 (rX (zR_ HO_476000))) (rX (zR_ HO_476001))) (rX (zR_ HO513))) (rX (zR_ HO516))) (bZ (zB_ HB))); replace HO_476000 := A0_ (Kd.R_elder' (zR_ HO_476000) (Kd.R_base ho0) hb); replace HO_476001 := A0_ (Kd.R_elder' (zR_ HO_476001) (Kd.R_base ho0) hb); replace HO513 := A0_ (Kd.R_elder' (zR_ HO513) (Kd.R_base ho0) hb); replace HO516 := A0_ (Kd.R_elder' (zR_ HO516) (Kd.R_base ho0) hb); replace BK450 := zK BK450 hb; replace BK475 := zK BK475 hb; replace HB := zB HB hb; (try clear hb); (try clear ho0); obtain ⟨Ao112, co112, eo112⟩ := rS HO513.out; subst eo112; obtain ⟨Ao113, co113, eo113⟩ := rS HO516.out; subst eo113; obtain ⟨Ao114, co114, eo114⟩ := Kd.S_slice HO519.out; subst eo114; obtain ⟨Ao115, co115, eo115⟩ := rS HO522.out; subst eo115) | ((with_reducible refine gC (f := 48) rfl ?_); refine zJ (some 130) Try.func48 #[.agg #[.slice Ao112 t511.length co112, .slice Ao113 t514.length co113], .int .i64 a1, .slice Ao114 t517.length co114, .int .i64 a3, .slice Ao115 t520.length co115] ?_; (with_reducible refine (impl_CoverConj.calls kj70 _ _ t511 _ _ t514 a1 _ _ t517 a3 _ _ t520 t523 t526 _ ?side1 ?side2 ?side3 ?side4 ?side5 ?side6 ?side7 ?side8 A103.out).mono ?_); (case side1 => exact zD HO513); (case side2 => exact (rR HO513.out).2.1); (case side3 => exact zD HO516); (case side4 => exact (rR HO516.out).2.1); (case side5 => exact zDS HO519); (case side6 => exact (Kd.S_reads' HO519.out).2.1); (case side7 => exact zD HO522); (case side8 => exact (rR HO522.out).2.1); rintro e w116 ⟨v524, rfl, ho0, hb⟩; refine ⟨_, rfl, ?_⟩; have HO525 := A0_ (Kd.S_lower (Kd.S_new' (Kd.S_new' (Kd.S_new' (Kd.S_new' (Kd.S_new' (Kd.S_new' (Kd.S_new' (Kd.S_new' ho0 (Kd.S_lt (zS_ HO_12))) (Kd.S_lt (zS_ HO_17))) (rX (zR_ HO_476000))) (rX (zR_ HO_476001))) (rX (zR_ HO513))) (rX (zR_ HO516))) (Kd.S_lt (zS_ HO519))) (rX (zR_ HO522))) (bZ (zB_ HB))); replace HO_12 := A0_ (Kd.S_elder' (zS_ HO_12) (Kd.S_base ho0) hb); replace HO_17 := A0_ (Kd.S_elder' (zS_ HO_17) (Kd.S_base ho0) hb); replace HO_476000 := zR HO_476000 hb; replace HO_476001 := zR HO_476001 hb; replace HO513 := zR HO513 hb; replace HO516 := zR HO516 hb; replace HO519 := A0_ (Kd.S_elder' (zS_ HO519) (Kd.S_base ho0) hb); replace HO522 := zR HO522 hb; replace BK450 := zK BK450 hb; replace BK475 := zK BK475 hb; replace HB := zB HB hb; (try clear hb); (try clear ho0)))
         (try simp only [Act.put, List.setIfInBounds_toArray, List.set_cons_zero, List.set_cons_succ])
         go_cut [141] (fun v141 wc => ∃ (kq : Nat) (x141_103 : Bool), v141 = .bool x141_103 ∧ Aside0 (laws_FnExactCoverConj.j2 kq ys t509 x141_103 = some r) ∧ Aside0 (kq ≤ kj70) ∧ Aside0 (Kd.S (Kd.slice 3 (Kd.int .i64)) 22 wc w.heap.size (fun _ => True) (.slice Ao105 t482.length co105) ys) ∧ Aside0 (Kd.R (Kd.int .i64) 3 wc w.heap.size (fun k_ => some k_ ≠ ((.slice Ao45 t504.length co45) : Value).ownBlock) (.slice Ao42 t503.length co42) t503) ∧ Aside0 (Kd.R (Kd.int .i64) 3 wc w.heap.size (fun k_ => some k_ ≠ ((.slice Ao42 t503.length co42) : Value).ownBlock) (.slice Ao45 t504.length co45) t504) ∧ Aside0 (wc.heap[gb450]? = some (.cells #[(.slice A0_0 l0_0.length c0_0), (.slice A0_1 l0_1.length c0_1)] 24 (0, 0))) ∧ Aside0 (wc.heap[gb475]? = some (.cells #[(.slice Ao42 t503.length co42), (.slice Ao45 t504.length co45)] 29 (0, 0))) ∧ Aside0 (Below w.heap.size w wc))
         case first =>
          have H := HC104.out; clear HC104; obtain ⟨t527, A117, H⟩ := zbind H
          by_cases c118 : t527 = true
          ·subst c118
           rw [if_pos rfl] at H; have H' := A0_ H; clear H; obtain ⟨Ao119, co119, eo119⟩ := Kd.S_slice HO525.out; subst eo119; obtain ⟨Ao120, co120, eo120⟩ := Kd.S_slice HO_12.out; subst eo120
           go_wp2_with (first | ((with_reducible refine gC (f := 22) rfl ?_); refine zJ (some 135) Try.func22 #[.slice Ao119 t523.length co119, .slice Ao120 t465.length co120] ?_; (with_reducible refine (laws_eqIntSS.calls kj70 _ _ t523 _ _ t465 true _ ?side1 ?side2 ?side3 ?side4 A117.out).mono ?_); (case side1 => exact zDS HO525); (case side2 => exact (Kd.S_reads' HO525.out).2.1); (case side3 => exact zDS HO_12); (case side4 => exact (Kd.S_reads' HO_12.out).2.1); rintro e w' ⟨rfl, ⟨nd, rfl⟩⟩; refine ⟨_, rfl, ?_⟩))
           go_meet
           case rel => exact ⟨_, ((t526 != t468)), zt, H', ⟨by have := HJ25.out; have := HJ70.out; first | omega | exact Nat.le_refl _⟩, ⟨by (try simp only [hl476000_70]); (try simp only [hl476001_70]); (with_reducible repeat (first | apply sA | apply sN | apply sD)); exact sM HO_17.out (fun _ _ => trivial)⟩, ⟨by (try simp only [hl476000_70]); (try simp only [hl476001_70]); (with_reducible repeat (first | apply rA | apply rN | apply rD)); exact rM HO_476000.out (fun _ hk => hk.1.1.1)⟩, ⟨by (try simp only [hl476000_70]); (try simp only [hl476001_70]); (with_reducible repeat (first | apply rA | apply rN | apply rD)); exact rM HO_476001.out (fun _ hk => hk.1.1.1)⟩, ⟨by (try simp only [hl476000_70]); (try simp only [hl476001_70]); (with_reducible repeat (first | refine kN ?_ _ | refine kD ?_ | refine kA ?_ _)); exact BK450.out⟩, ⟨by (try simp only [hl476000_70]); (try simp only [hl476001_70]); (with_reducible repeat (first | refine kN ?_ _ | refine kD ?_ | refine kA ?_ _)); exact BK475.out⟩, ⟨zB_ HB⟩⟩
          replace c118 := Bool.eq_false_iff.mpr c118; subst c118
          rw [if_neg (show ¬ (false = true) by decide)] at H
          have H' := A0_ H; clear H; obtain ⟨Ao121, co121, eo121⟩ := Kd.S_slice HO525.out; subst eo121; obtain ⟨Ao122, co122, eo122⟩ := Kd.S_slice HO_12.out; subst eo122
          go_wp2_with (first | ((with_reducible refine gC (f := 22) rfl ?_); refine zJ (some 135) Try.func22 #[.slice Ao121 t523.length co121, .slice Ao122 t465.length co122] ?_; (with_reducible refine (laws_eqIntSS.calls kj70 _ _ t523 _ _ t465 false _ ?side1 ?side2 ?side3 ?side4 A117.out).mono ?_); (case side1 => exact zDS HO525); (case side2 => exact (Kd.S_reads' HO525.out).2.1); (case side3 => exact zDS HO_12); (case side4 => exact (Kd.S_reads' HO_12.out).2.1); rintro e w' ⟨rfl, ⟨nd, rfl⟩⟩; refine ⟨_, rfl, ?_⟩))
          go_meet
          case rel => exact ⟨_, (true), zt, H', ⟨by have := HJ25.out; have := HJ70.out; first | omega | exact Nat.le_refl _⟩, ⟨by (try simp only [hl476000_70]); (try simp only [hl476001_70]); (with_reducible repeat (first | apply sA | apply sN | apply sD)); exact sM HO_17.out (fun _ _ => trivial)⟩, ⟨by (try simp only [hl476000_70]); (try simp only [hl476001_70]); (with_reducible repeat (first | apply rA | apply rN | apply rD)); exact rM HO_476000.out (fun _ hk => hk.1.1.1)⟩, ⟨by (try simp only [hl476000_70]); (try simp only [hl476001_70]); (with_reducible repeat (first | apply rA | apply rN | apply rD)); exact rM HO_476001.out (fun _ hk => hk.1.1.1)⟩, ⟨by (try simp only [hl476000_70]); (try simp only [hl476001_70]); (with_reducible repeat (first | refine kN ?_ _ | refine kD ?_ | refine kA ?_ _)); exact BK450.out⟩, ⟨by (try simp only [hl476000_70]); (try simp only [hl476001_70]); (with_reducible repeat (first | refine kN ?_ _ | refine kD ?_ | refine kA ?_ _)); exact BK475.out⟩, ⟨zB_ HB⟩⟩
         case rest =>
          clear HC104; (try clear c1); (try clear c2); (try clear p2); (try clear c3); (try clear c4); (try clear c5); (try clear c6); (try clear c6b0); (try clear c6b1); (try clear c8); (try clear c9); (try clear c9b0); (try clear c10); (try clear c11); (try clear c12); (try clear c14); (try clear c14b0); (try clear c15); (try clear c16); (try clear c18); (try clear c19); (try clear c21); (try clear c22); (try clear c25); (try clear c26); (try clear c27); (try clear c29); (try clear c31); (try clear c32); (try clear c43); (try clear c47); (try clear c48); (try clear c53); (try clear c58); (try clear c61); (try clear c64); (try clear c67); (try clear c81); (try clear c86); (try clear c86b0); (try clear c88); (try clear c93); (try clear c96); (try clear c96b0); (try clear c99); (try clear c99b0); (try clear c99b1); (try clear c107); (try clear c118); (try clear hcz108_0); (try clear hcz108_1); (try clear hcz11_0); (try clear hcz11_1); (try clear hcz16_0); (try clear hcz16_1); (try clear hcz28_0); (try clear hcz28_1); (try clear hcz30_0); (try clear hcz30_1); (try clear hcz39_0); (try clear hcz39_1); (try clear hcz44_0); (try clear hcz44_1); (try clear hcz48_0); (try clear hcz48_1); (try clear hcz82_0); (try clear hcz82_1); (try clear hfz108_0); (try clear hfz108_1); (try clear hfz11_0); (try clear hfz11_1); (try clear hfz16_0); (try clear hfz16_1); (try clear hfz28_0); (try clear hfz28_1); (try clear hfz30_0); (try clear hfz30_1); (try clear hfz39_0); (try clear hfz39_1); (try clear hfz44_0); (try clear hfz44_1); (try clear hfz48_0); (try clear hfz48_1); (try clear hfz82_0); (try clear hfz82_1); (try clear p2); obtain ⟨kq, x141_103, rfl, HA, HJ103, HO_17, HO_476000, HO_476001, BK450, BK475, HB⟩ := hcut
          cases kq with
          | zero => exact absurd HA.out (by simp [laws_FnExactCoverConj.j2])
          | succ kj103 =>
           have H := HA.out; clear HA; simp only [laws_FnExactCoverConj.j2] at H
           by_cases c123 : x141_103 = true
           ·subst c123
            rw [if_pos rfl] at H; obtain rfl := sI H
            go_wp2
            go_ret
            exact ⟨by first | rfl | (simp [*] <;> rfl), zB_ HB⟩
           replace c123 := Bool.eq_false_iff.mpr c123; subst c123
           rw [if_neg (show ¬ (false = true) by decide)] at H
           obtain ⟨t528, A124, H⟩ := zbind H
           by_cases c125 : t528 < 0
           ·rw [if_pos c125] at H
            have c125b0 := dT c125; clear c125; obtain rfl := sI H
            go_wp2_with (first | ((with_reducible refine gC (f := 27) rfl ?_); refine zJ (some 144) Try.func27 #[.slice Ao105 t482.length co105, .int .i64 1] ?_; (with_reducible refine (laws_heldIntSS.calls2 HLY.out kj103 _ _ ys 1 t528 _ ?side1 ?side2 A124.out).mono ?_); (case side1 => exact zDS HO_17); (case side2 => exact (Kd.S_reads' HO_17.out).2.1); rintro e w' ⟨rfl, ⟨nd, rfl⟩⟩; refine ⟨_, rfl, ?_⟩))
            go_ret
            exact ⟨by first | rfl | (simp [*] <;> rfl), zB_ HB⟩
           rw [if_neg c125] at H; have c125b0 := dF c125; clear c125
           by_cases c126 : t528 = t509
           ·rw [if_pos c126] at H
            have c126b0 : (t528 == t509) = true := beq_iff_eq.mpr c126
            have c126b1 : (t528 != t509) = false := bne_eq_false_iff_eq.mpr c126
            clear c126; obtain rfl := sI H
            go_wp2_with (first | ((with_reducible refine gC (f := 27) rfl ?_); refine zJ (some 144) Try.func27 #[.slice Ao105 t482.length co105, .int .i64 1] ?_; (with_reducible refine (laws_heldIntSS.calls2 HLY.out kj103 _ _ ys 1 t528 _ ?side1 ?side2 A124.out).mono ?_); (case side1 => exact zDS HO_17); (case side2 => exact (Kd.S_reads' HO_17.out).2.1); rintro e w' ⟨rfl, ⟨nd, rfl⟩⟩; refine ⟨_, rfl, ?_⟩))
            go_ret
            exact ⟨by first | rfl | (simp [*] <;> rfl), zB_ HB⟩
           rw [if_neg c126] at H
           have c126b0 : (t528 == t509) = false := beq_eq_false_iff_ne.mpr c126
           have c126b1 : (t528 != t509) = true := bne_iff_ne.mpr c126
           obtain rfl := sI H
           go_wp2_with (first | ((with_reducible refine gC (f := 27) rfl ?_); refine zJ (some 144) Try.func27 #[.slice Ao105 t482.length co105, .int .i64 1] ?_; (with_reducible refine (laws_heldIntSS.calls2 HLY.out kj103 _ _ ys 1 t528 _ ?side1 ?side2 A124.out).mono ?_); (case side1 => exact zDS HO_17); (case side2 => exact (Kd.S_reads' HO_17.out).2.1); rintro e w' ⟨rfl, ⟨nd, rfl⟩⟩; refine ⟨_, rfl, ?_⟩))
           go_ret
           exact ⟨by first | rfl | (simp [*] <;> rfl), zB_ HB⟩
        rw [if_neg c99] at H
        have c99b0 : (t510 == t509) = false := beq_eq_false_iff_ne.mpr c99
        have c99b1 : (t510 != t509) = true := bne_iff_ne.mpr c99
        obtain rfl := sI H; obtain ⟨Ao127, co127, eo127⟩ := Kd.S_slice HO_17.out; subst eo127
        go_wp2_with (first | ((with_reducible refine gC (f := 26) rfl ?_); refine zJ (some 112) Try.func26 #[.slice Ao127 t482.length co127, .int .i64 1] ?_; have hS_ := Kd.S_bound HO_17.out; refine (laws_markIntSS.calls kj70 _ _ t482 1 t509 ys w _ (zB_ HB) (by (with_reducible repeat apply sA); exact hS_) A94.out).mono ?_; rintro e w128 ⟨rfl, hy_, hb, hkp⟩; refine ⟨_, rfl, ?_⟩; replace HO_12 := A0_ (sM (Kd.S_keptB (zS_ HO_12) hkp (fun k_ hk_ hs_ => by exact absurd hk_.2.2.2 (Nat.not_lt.2 hs_.1.2.2.2))) (fun _ hk => hk.1)); replace HO_17 := A0_ hy_; replace HO_476000 := A0_ (Kd.R_reok rfl (Kd.R_keptB (Kd.R_tight rfl (zR_ HO_476000)) hkp (fun k_ hk_ hs_ => (by have h_ := hs_.1; repeat (first | exact h_.1 hk_ | exact h_ hk_ | replace h_ := h_.2)))) (fun k_ e_ => HO_476000.out.1 k_ e_)); replace HO_476001 := A0_ (Kd.R_reok rfl (Kd.R_keptB (Kd.R_tight rfl (zR_ HO_476001)) hkp (fun k_ hk_ hs_ => (by have h_ := hs_.1; repeat (first | exact h_.1 hk_ | exact h_ hk_ | replace h_ := h_.2)))) (fun k_ e_ => HO_476001.out.1 k_ e_)); replace BK450 := A0_ (blk_kept (zK_ BK450) hkp (fun hs_ => by obtain ⟨_, _, _, q_, hq_, cs_, hc_⟩ := hs_; have e_ := BK450.out.symm.trans hc_; injection e_ with e_; injection e_ with _ e2_ _; subst e2_; exact absurd hq_ (by decide))); replace BK475 := A0_ (blk_kept (zK_ BK475) hkp (fun hs_ => by obtain ⟨_, _, _, q_, hq_, cs_, hc_⟩ := hs_; have e_ := BK475.out.symm.trans hc_; injection e_ with e_; injection e_ with _ e2_ _; subst e2_; exact absurd hq_ (by decide))); replace HB := A0_ (hb); (try clear hb); (try clear hkp); (try clear hS_); (try clear hy_)) | ((with_reducible refine gC (f := 27) rfl ?_); refine zJ (some 115) Try.func27 #[.slice Ao127 t482.length co127, .int .i64 1] ?_; (with_reducible refine (laws_heldIntSS.calls2 HLY.out kj70 _ _ ys 1 t510 _ ?side1 ?side2 A95.out).mono ?_); (case side1 => exact zDS HO_17); (case side2 => exact (Kd.S_reads' HO_17.out).2.1); rintro e w' ⟨rfl, ⟨nd, rfl⟩⟩; refine ⟨_, rfl, ?_⟩))
        go_ret
        exact ⟨by first | rfl | (simp [*] <;> rfl), zB_ HB⟩
     replace c67 := Bool.eq_false_iff.mpr c67; subst c67
     rw [if_neg (show ¬ (false = true) by decide)] at H
     obtain rfl := sI H
     try go_wp2
     replace HO_12 := A0_ (sD HO_12.out)
     replace HO_15 := A0_ (sD HO_15.out)
     replace HO_16 := A0_ (rD HO_16.out)
     replace HO_17 := A0_ (sD HO_17.out)
     replace HO_476000 := A0_ (rD HO_476000.out)
     replace HO_476001 := A0_ (rD HO_476001.out)
     replace BK450 := A0_ (kD BK450.out)
     replace BK475 := A0_ (kD BK475.out)
     replace HB := A0_ (bD HB.out)
     refine start_ (n := 5) (S := fun w' => w'.cell? ⟨gb475, 0, none⟩ = some (.slice Ao42 t469.length co42) ∧ w'.cell? ⟨gb475, 1, none⟩ = some (.slice Ao45 t472.length co45) ∧ w'.cell? ⟨gb450, 0, none⟩ = some (.slice A0_0 l0_0.length c0_0) ∧ w'.cell? ⟨gb450, 1, none⟩ = some (.slice A0_1 l0_1.length c0_1)) (ds := []) #[false, false, false, false, false] (by kernel_rfl) rfl rfl ⟨(kC BK475.out 0).trans rfl, (kC BK475.out 1).trans rfl, (kC BK450.out 0).trans rfl, (kC BK450.out 1).trans rfl⟩ (fun hHeld => ?_)
     generalize wc.drew = w129 at HO_12 HO_15 HO_16 HO_17 HO_476000 HO_476001 BK450 BK475 HB hHeld ⊢
     refine take_ (i := 0) (N := some 73) (v := ?_) (a' := ?_) #[true, false, false, false, false] rfl rfl (by kernel_rfl) (fun _ _ _ h => h) (Or.inl ⟨by rfl, ?_⟩) hHeld ?_ ?_
     rotate_left
     ·rintro w' ⟨s0, s1, s2, s3⟩
      go_simp
      with_reducible rfl
     rotate_left
     ·simp only [Act.put, List.setIfInBounds_toArray, List.set_cons_zero, List.set_cons_succ, i64_w, i32_w]
      rfl
     refine take_ (i := 1) (N := some 74) (v := ?_) (a' := ?_) #[true, true, false, false, false] rfl rfl (by kernel_rfl) (fun _ _ _ h => h) (Or.inl ⟨by rfl, ?_⟩) hHeld ?_ ?_
     rotate_left
     ·rintro w' ⟨s0, s1, s2, s3⟩
      go_simp
      with_reducible rfl
     rotate_left
     ·simp only [Act.put, List.setIfInBounds_toArray, List.set_cons_zero, List.set_cons_succ, i64_w, i32_w]
      rfl
     refine one_ (i := 2) (N := some 75) #[true, true, true, false, false] rfl rfl (by kernel_rfl) (by decide) (fun K hK => ?_)
     refine goes_ Try.func18 (by kernel_rfl) rfl #[.agg #[.slice A0_0 l0_0.length c0_0, .slice A0_1 l0_1.length c0_1]] (by rfl) rfl rfl (by (try simp only [List.map_toArray, List.map_cons, List.map_nil]); first | done | rfl | (simp only [List.length_drop, List.length_take]; rfl)) ?_
     with_reducible refine (laws_toMap.calls kj25 _ _ l0_0 _ _ l0_1 t487 t490 _ ?side1 ?side2 ?side3 ?side4 A59.out).mono ?_
     (case side1 => exact zC HR0_0 HB)
     (case side2 => exact HC0_0.out)
     (case side3 => exact zC HR0_1 HB)
     (case side4 => exact HC0_1.out)
     rintro e w130 ⟨v488, v491, rfl, ho0, ho1, hb⟩
     refine ⟨_, rfl, ?_⟩
     replace HO_12 := A0_ (sM (Kd.S_told (Kd.S_told (Kd.S_old (zS_ HO_12) hb) (Kd.R_base ho0)) (Kd.R_base ho1)) (fun _ h_ => h_.1))
     replace HO_15 := A0_ (sM (Kd.S_told (Kd.S_told (Kd.S_old (zS_ HO_15) hb) (Kd.R_base ho0)) (Kd.R_base ho1)) (fun _ h_ => h_.1))
     replace HO_17 := A0_ (sM (Kd.S_told (Kd.S_told (Kd.S_old (zS_ HO_17) hb) (Kd.R_base ho0)) (Kd.R_base ho1)) (fun _ h_ => h_.1))
     have HO489 := A0_ (rL (Kd.R_new' (Kd.R_new' (Kd.R_new' ho0 (rX (zR_ HO_16))) (rX (zR_ HO_476000))) (rX (zR_ HO_476001))) (bZ (zB_ HB)))
     have HO492 := A0_ (rL (Kd.R_new' (Kd.R_new' (Kd.R_new' ho1 (rX (zR_ HO_16))) (rX (zR_ HO_476000))) (rX (zR_ HO_476001))) (bZ (zB_ HB)))
     replace HO_16 := A0_ (rM (rT (rT (rO (zR_ HO_16) hb) (Kd.R_base ho0)) (Kd.R_base ho1)) (fun _ h_ => h_.1))
     replace HO_476000 := A0_ (rM (rT (rT (rO (zR_ HO_476000) hb) (Kd.R_base ho0)) (Kd.R_base ho1)) (fun _ h_ => h_.1))
     replace HO_476001 := A0_ (rM (rT (rT (rO (zR_ HO_476001) hb) (Kd.R_base ho0)) (Kd.R_base ho1)) (fun _ h_ => h_.1))
     replace BK450 := zK BK450 hb; replace BK475 := zK BK475 hb; replace HB := zB HB hb; (try clear hb); (try clear hb2); (try clear hk); (try clear hi); (try clear ho0); (try clear ho1); obtain ⟨Ao131, co131, eo131⟩ := rS HO489.out
     (first | subst eo131 | (injection eo131 with f1_ f2_ f3_; have f4_ := f1_.symm; have f5_ := f3_.symm; clear f1_ f2_ f3_; subst f4_; subst f5_))
     obtain ⟨Ao132, co132, eo132⟩ := rS HO492.out
     (first | subst eo132 | (injection eo132 with f1_ f2_ f3_; have f4_ := f1_.symm; have f5_ := f3_.symm; clear f1_ f2_ f3_; subst f4_; subst f5_))
     refine hK.out _ _ ⟨(kC BK475.out 0).trans rfl, (kC BK475.out 1).trans rfl, (kC BK450.out 0).trans rfl, (kC BK450.out 1).trans rfl⟩ (fun hHeld => ?_)
     clear hK K
     refine norm_ (a' := ?_) ?_ ?_
     rotate_left
     ·show Act.put _ (some 75) _ = _
      simp only [Act.put, List.setIfInBounds_toArray, List.set_cons_zero, List.set_cons_succ, i64_w, i32_w]
      rfl
     refine one_ (i := 3) (N := some 76) #[true, true, true, true, false] rfl rfl (by kernel_rfl) (by decide) (fun K hK => ?_)
     refine goes_ Try.func21 (by kernel_rfl) rfl #[.agg #[.slice Ao42 t469.length co42, .slice Ao45 t472.length co45], .agg #[.slice Ao131 t487.length co131, .slice Ao132 t490.length co132]] (by rfl) rfl rfl (by (try simp only [List.map_toArray, List.map_cons, List.map_nil]); first | done | rfl | (simp only [List.length_drop, List.length_take]; rfl)) ?_
     with_reducible refine (laws_eqMap.calls kj25 _ _ t469 _ _ t472 _ _ t487 _ _ t490 true _ ?side1 ?side2 ?side3 ?side4 ?side5 ?side6 ?side7 ?side8 A60.out).mono ?_
     (case side1 => exact zD HO_476000)
     (case side2 => exact (rR HO_476000.out).2.1)
     (case side3 => exact zD HO_476001)
     (case side4 => exact (rR HO_476001.out).2.1)
     (case side5 => exact zD HO489)
     (case side6 => exact (rR HO489.out).2.1)
     (case side7 => exact zD HO492)
     (case side8 => exact (rR HO492.out).2.1)
     rintro e w133 ⟨rfl, hb⟩
     refine ⟨_, rfl, ?_⟩
     replace HO_12 := zS HO_12 hb; replace HO_15 := zS HO_15 hb; replace HO_16 := zR HO_16 hb; replace HO_17 := zS HO_17 hb; replace HO_476000 := zR HO_476000 hb; replace HO_476001 := zR HO_476001 hb; replace HO489 := zR HO489 hb; replace HO492 := zR HO492 hb; replace BK450 := zK BK450 hb; replace BK475 := zK BK475 hb; replace HB := zB HB hb; (try clear hb); (try clear hb2); (try clear hk); (try clear hi)
     refine hK.out _ _ ⟨(kC BK475.out 0).trans rfl, (kC BK475.out 1).trans rfl, (kC BK450.out 0).trans rfl, (kC BK450.out 1).trans rfl⟩ (fun hHeld => ?_)
     clear hK K
     refine norm_ (a' := ?_) ?_ ?_
     rotate_left
     ·show Act.put _ (some 76) _ = _
      simp only [Act.put, List.setIfInBounds_toArray, List.set_cons_zero, List.set_cons_succ, i64_w, i32_w]
      rfl
     refine pure_ (i := 4) (N := some 77) (v := ?_) (a' := ?_) #[true, true, true, true, true] rfl rfl (by kernel_rfl) (fun _ _ _ h => h) (Or.inl ⟨by rfl, ?_⟩) ?_ ?_
     rotate_left
     ·intro w'
      go_simp
      with_reducible rfl
     rotate_left
     ·simp only [Act.put, List.setIfInBounds_toArray, List.set_cons_zero, List.set_cons_succ, i64_w, i32_w]
      rfl
     refine done_ (by kernel_rfl) ?_
     try go_wp2_with (first | ((with_reducible refine gC (f := 19) rfl ?_); refine zJ (some 80) Try.func19 #[.slice A2 l2.length c2] ?_; (with_reducible refine (laws_toIntSS.calls kj25 _ _ l2 t494 _ ?side1 ?side2 A62.out).mono ?_); (case side1 => exact zC HR2 HB); (case side2 => exact HC2.out); rintro e w134 ⟨v495, rfl, ho0, hb⟩; refine ⟨_, rfl, ?_⟩; have HO496 := A0_ (Kd.S_lower (Kd.S_new' (Kd.S_new' (Kd.S_new' (Kd.S_new' (Kd.S_new' (Kd.S_new' (Kd.S_new' (Kd.S_new' ho0 (Kd.S_lt (zS_ HO_12))) (Kd.S_lt (zS_ HO_15))) (rX (zR_ HO_16))) (Kd.S_lt (zS_ HO_17))) (rX (zR_ HO_476000))) (rX (zR_ HO_476001))) (rX (zR_ HO489))) (rX (zR_ HO492))) (bZ (zB_ HB))); replace HO_12 := A0_ (Kd.S_elder' (zS_ HO_12) (Kd.S_base ho0) hb); replace HO_15 := A0_ (Kd.S_elder' (zS_ HO_15) (Kd.S_base ho0) hb); replace HO_16 := zR HO_16 hb; replace HO_17 := A0_ (Kd.S_elder' (zS_ HO_17) (Kd.S_base ho0) hb); replace HO_476000 := zR HO_476000 hb; replace HO_476001 := zR HO_476001 hb; replace HO489 := zR HO489 hb; replace HO492 := zR HO492 hb; replace BK450 := zK BK450 hb; replace BK475 := zK BK475 hb; replace HB := zB HB hb; (try clear hb); (try clear ho0); obtain ⟨Ao135, co135, eo135⟩ := Kd.S_slice HO496.out; subst eo135) | ((with_reducible refine gC (f := 22) rfl ?_); refine zJ (some 81) Try.func22 #[.slice Ao49 t476.length co49, .slice Ao135 t494.length co135] ?_; (with_reducible refine (laws_eqIntSS.calls kj25 _ _ t476 _ _ t494 true _ ?side1 ?side2 ?side3 ?side4 A63.out).mono ?_); (case side1 => exact zDS HO_15); (case side2 => exact (Kd.S_reads' HO_15.out).2.1); (case side3 => exact zDS HO496); (case side4 => exact (Kd.S_reads' HO496.out).2.1); rintro e w' ⟨rfl, ⟨nd, rfl⟩⟩; refine ⟨_, rfl, ?_⟩) | ((with_reducible refine gC (f := 29) rfl ?_); refine zJ (some 85) Try.func29 #[.slice A4 l4.length c4] ?_; (with_reducible refine (laws_toIntS.calls kj25 _ _ l4 t498 _ ?side1 ?side2 A65.out).mono ?_); (case side1 => repeat (first | exact (cB HR4.out (zB_ HB)) | (with_reducible refine cA ?_ _))); (case side2 => exact HC4.out); rintro e w136 ⟨v499, rfl, ho0, hb⟩; refine ⟨_, rfl, ?_⟩; replace HO_12 := A0_ (Kd.S_elder' (zS_ HO_12) (Kd.R_base ho0) hb); replace HO_15 := A0_ (Kd.S_elder' (zS_ HO_15) (Kd.R_base ho0) hb); replace HO_17 := A0_ (Kd.S_elder' (zS_ HO_17) (Kd.R_base ho0) hb); replace HO496 := A0_ (Kd.S_elder' (zS_ HO496) (Kd.R_base ho0) hb); have HO500 := A0_ (rL (Kd.R_new' (Kd.R_new' (Kd.R_new' (Kd.R_new' (Kd.R_new' ho0 (rX (zR_ HO_16))) (rX (zR_ HO_476000))) (rX (zR_ HO_476001))) (rX (zR_ HO489))) (rX (zR_ HO492))) (bZ (zB_ HB))); replace HO_16 := A0_ (Kd.R_elder' (zR_ HO_16) (Kd.R_base ho0) hb); replace HO_476000 := A0_ (Kd.R_elder' (zR_ HO_476000) (Kd.R_base ho0) hb); replace HO_476001 := A0_ (Kd.R_elder' (zR_ HO_476001) (Kd.R_base ho0) hb); replace HO489 := A0_ (Kd.R_elder' (zR_ HO489) (Kd.R_base ho0) hb); replace HO492 := A0_ (Kd.R_elder' (zR_ HO492) (Kd.R_base ho0) hb); replace BK450 := zK BK450 hb; replace BK475 := zK BK475 hb; replace HB := zB HB hb; (try clear hb); (try clear ho0); obtain ⟨Ao137, co137, eo137⟩ := rS HO500.out; subst eo137) | ((with_reducible refine gC (f := 31) rfl ?_); refine zJ (some 86) Try.func31 #[.slice Ao50 t479.length co50, .slice Ao137 t498.length co137] ?_; (with_reducible refine (laws_eqIntS.calls kj25 _ _ t479 _ _ t498 false _ ?side1 ?side2 ?side3 ?side4 A66.out).mono ?_); (case side1 => exact zD HO_16); (case side2 => exact (rR HO_16.out).2.1); (case side3 => exact zD HO500); (case side4 => exact (rR HO500.out).2.1); rintro e w' ⟨rfl, ⟨nd, rfl⟩⟩; refine ⟨_, rfl, ?_⟩))
     go_ret
     exact ⟨by first | rfl | (simp [*] <;> rfl), zB_ HB⟩
    replace c64 := Bool.eq_false_iff.mpr c64; subst c64
    rw [if_neg (show ¬ (false = true) by decide)] at H
    obtain rfl := sI H
    try go_wp2
    replace HO_12 := A0_ (sD HO_12.out)
    replace HO_15 := A0_ (sD HO_15.out)
    replace HO_16 := A0_ (rD HO_16.out)
    replace HO_17 := A0_ (sD HO_17.out)
    replace HO_476000 := A0_ (rD HO_476000.out)
    replace HO_476001 := A0_ (rD HO_476001.out)
    replace BK450 := A0_ (kD BK450.out)
    replace BK475 := A0_ (kD BK475.out)
    replace HB := A0_ (bD HB.out)
    refine start_ (n := 5) (S := fun w' => w'.cell? ⟨gb475, 0, none⟩ = some (.slice Ao42 t469.length co42) ∧ w'.cell? ⟨gb475, 1, none⟩ = some (.slice Ao45 t472.length co45) ∧ w'.cell? ⟨gb450, 0, none⟩ = some (.slice A0_0 l0_0.length c0_0) ∧ w'.cell? ⟨gb450, 1, none⟩ = some (.slice A0_1 l0_1.length c0_1)) (ds := []) #[false, false, false, false, false] (by kernel_rfl) rfl rfl ⟨(kC BK475.out 0).trans rfl, (kC BK475.out 1).trans rfl, (kC BK450.out 0).trans rfl, (kC BK450.out 1).trans rfl⟩ (fun hHeld => ?_)
    generalize wc.drew = w138 at HO_12 HO_15 HO_16 HO_17 HO_476000 HO_476001 BK450 BK475 HB hHeld ⊢
    refine take_ (i := 0) (N := some 73) (v := ?_) (a' := ?_) #[true, false, false, false, false] rfl rfl (by kernel_rfl) (fun _ _ _ h => h) (Or.inl ⟨by rfl, ?_⟩) hHeld ?_ ?_
    rotate_left
    ·rintro w' ⟨s0, s1, s2, s3⟩
     go_simp
     with_reducible rfl
    rotate_left
    ·simp only [Act.put, List.setIfInBounds_toArray, List.set_cons_zero, List.set_cons_succ, i64_w, i32_w]
     rfl
    refine take_ (i := 1) (N := some 74) (v := ?_) (a' := ?_) #[true, true, false, false, false] rfl rfl (by kernel_rfl) (fun _ _ _ h => h) (Or.inl ⟨by rfl, ?_⟩) hHeld ?_ ?_
    rotate_left
    ·rintro w' ⟨s0, s1, s2, s3⟩
     go_simp
     with_reducible rfl
    rotate_left
    ·simp only [Act.put, List.setIfInBounds_toArray, List.set_cons_zero, List.set_cons_succ, i64_w, i32_w]
     rfl
    refine one_ (i := 2) (N := some 75) #[true, true, true, false, false] rfl rfl (by kernel_rfl) (by decide) (fun K hK => ?_)
    refine goes_ Try.func18 (by kernel_rfl) rfl #[.agg #[.slice A0_0 l0_0.length c0_0, .slice A0_1 l0_1.length c0_1]] (by rfl) rfl rfl (by (try simp only [List.map_toArray, List.map_cons, List.map_nil]); first | done | rfl | (simp only [List.length_drop, List.length_take]; rfl)) ?_
    with_reducible refine (laws_toMap.calls kj25 _ _ l0_0 _ _ l0_1 t487 t490 _ ?side1 ?side2 ?side3 ?side4 A59.out).mono ?_
    (case side1 => exact zC HR0_0 HB)
    (case side2 => exact HC0_0.out)
    (case side3 => exact zC HR0_1 HB)
    (case side4 => exact HC0_1.out)
    rintro e w139 ⟨v488, v491, rfl, ho0, ho1, hb⟩
    refine ⟨_, rfl, ?_⟩
    replace HO_12 := A0_ (sM (Kd.S_told (Kd.S_told (Kd.S_old (zS_ HO_12) hb) (Kd.R_base ho0)) (Kd.R_base ho1)) (fun _ h_ => h_.1))
    replace HO_15 := A0_ (sM (Kd.S_told (Kd.S_told (Kd.S_old (zS_ HO_15) hb) (Kd.R_base ho0)) (Kd.R_base ho1)) (fun _ h_ => h_.1))
    replace HO_17 := A0_ (sM (Kd.S_told (Kd.S_told (Kd.S_old (zS_ HO_17) hb) (Kd.R_base ho0)) (Kd.R_base ho1)) (fun _ h_ => h_.1))
    have HO489 := A0_ (rL (Kd.R_new' (Kd.R_new' (Kd.R_new' ho0 (rX (zR_ HO_16))) (rX (zR_ HO_476000))) (rX (zR_ HO_476001))) (bZ (zB_ HB)))
    have HO492 := A0_ (rL (Kd.R_new' (Kd.R_new' (Kd.R_new' ho1 (rX (zR_ HO_16))) (rX (zR_ HO_476000))) (rX (zR_ HO_476001))) (bZ (zB_ HB)))
    replace HO_16 := A0_ (rM (rT (rT (rO (zR_ HO_16) hb) (Kd.R_base ho0)) (Kd.R_base ho1)) (fun _ h_ => h_.1))
    replace HO_476000 := A0_ (rM (rT (rT (rO (zR_ HO_476000) hb) (Kd.R_base ho0)) (Kd.R_base ho1)) (fun _ h_ => h_.1))
    replace HO_476001 := A0_ (rM (rT (rT (rO (zR_ HO_476001) hb) (Kd.R_base ho0)) (Kd.R_base ho1)) (fun _ h_ => h_.1))
    replace BK450 := zK BK450 hb; replace BK475 := zK BK475 hb; replace HB := zB HB hb; (try clear hb); (try clear hb2); (try clear hk); (try clear hi); (try clear ho0); (try clear ho1); obtain ⟨Ao140, co140, eo140⟩ := rS HO489.out
    (first | subst eo140 | (injection eo140 with f1_ f2_ f3_; have f4_ := f1_.symm; have f5_ := f3_.symm; clear f1_ f2_ f3_; subst f4_; subst f5_))
    obtain ⟨Ao141, co141, eo141⟩ := rS HO492.out
    (first | subst eo141 | (injection eo141 with f1_ f2_ f3_; have f4_ := f1_.symm; have f5_ := f3_.symm; clear f1_ f2_ f3_; subst f4_; subst f5_))
    refine hK.out _ _ ⟨(kC BK475.out 0).trans rfl, (kC BK475.out 1).trans rfl, (kC BK450.out 0).trans rfl, (kC BK450.out 1).trans rfl⟩ (fun hHeld => ?_)
    clear hK K
    refine norm_ (a' := ?_) ?_ ?_
    rotate_left
    ·show Act.put _ (some 75) _ = _
     simp only [Act.put, List.setIfInBounds_toArray, List.set_cons_zero, List.set_cons_succ, i64_w, i32_w]
     rfl
    refine one_ (i := 3) (N := some 76) #[true, true, true, true, false] rfl rfl (by kernel_rfl) (by decide) (fun K hK => ?_)
    refine goes_ Try.func21 (by kernel_rfl) rfl #[.agg #[.slice Ao42 t469.length co42, .slice Ao45 t472.length co45], .agg #[.slice Ao140 t487.length co140, .slice Ao141 t490.length co141]] (by rfl) rfl rfl (by (try simp only [List.map_toArray, List.map_cons, List.map_nil]); first | done | rfl | (simp only [List.length_drop, List.length_take]; rfl)) ?_
    with_reducible refine (laws_eqMap.calls kj25 _ _ t469 _ _ t472 _ _ t487 _ _ t490 true _ ?side1 ?side2 ?side3 ?side4 ?side5 ?side6 ?side7 ?side8 A60.out).mono ?_
    (case side1 => exact zD HO_476000)
    (case side2 => exact (rR HO_476000.out).2.1)
    (case side3 => exact zD HO_476001)
    (case side4 => exact (rR HO_476001.out).2.1)
    (case side5 => exact zD HO489)
    (case side6 => exact (rR HO489.out).2.1)
    (case side7 => exact zD HO492)
    (case side8 => exact (rR HO492.out).2.1)
    rintro e w142 ⟨rfl, hb⟩
    refine ⟨_, rfl, ?_⟩
    replace HO_12 := zS HO_12 hb; replace HO_15 := zS HO_15 hb; replace HO_16 := zR HO_16 hb; replace HO_17 := zS HO_17 hb; replace HO_476000 := zR HO_476000 hb; replace HO_476001 := zR HO_476001 hb; replace HO489 := zR HO489 hb; replace HO492 := zR HO492 hb; replace BK450 := zK BK450 hb; replace BK475 := zK BK475 hb; replace HB := zB HB hb; (try clear hb); (try clear hb2); (try clear hk); (try clear hi)
    refine hK.out _ _ ⟨(kC BK475.out 0).trans rfl, (kC BK475.out 1).trans rfl, (kC BK450.out 0).trans rfl, (kC BK450.out 1).trans rfl⟩ (fun hHeld => ?_)
    clear hK K
    refine norm_ (a' := ?_) ?_ ?_
    rotate_left
    ·show Act.put _ (some 76) _ = _
     simp only [Act.put, List.setIfInBounds_toArray, List.set_cons_zero, List.set_cons_succ, i64_w, i32_w]
     rfl
    refine pure_ (i := 4) (N := some 77) (v := ?_) (a' := ?_) #[true, true, true, true, true] rfl rfl (by kernel_rfl) (fun _ _ _ h => h) (Or.inl ⟨by rfl, ?_⟩) ?_ ?_
    rotate_left
    ·intro w'
     go_simp
     with_reducible rfl
    rotate_left
    ·simp only [Act.put, List.setIfInBounds_toArray, List.set_cons_zero, List.set_cons_succ, i64_w, i32_w]
     rfl
    refine done_ (by kernel_rfl) ?_
    try go_wp2_with (first | ((with_reducible refine gC (f := 19) rfl ?_); refine zJ (some 80) Try.func19 #[.slice A2 l2.length c2] ?_; (with_reducible refine (laws_toIntSS.calls kj25 _ _ l2 t494 _ ?side1 ?side2 A62.out).mono ?_); (case side1 => exact zC HR2 HB); (case side2 => exact HC2.out); rintro e w143 ⟨v495, rfl, ho0, hb⟩; refine ⟨_, rfl, ?_⟩; have HO496 := A0_ (Kd.S_lower (Kd.S_new' (Kd.S_new' (Kd.S_new' (Kd.S_new' (Kd.S_new' (Kd.S_new' (Kd.S_new' (Kd.S_new' ho0 (Kd.S_lt (zS_ HO_12))) (Kd.S_lt (zS_ HO_15))) (rX (zR_ HO_16))) (Kd.S_lt (zS_ HO_17))) (rX (zR_ HO_476000))) (rX (zR_ HO_476001))) (rX (zR_ HO489))) (rX (zR_ HO492))) (bZ (zB_ HB))); replace HO_12 := A0_ (Kd.S_elder' (zS_ HO_12) (Kd.S_base ho0) hb); replace HO_15 := A0_ (Kd.S_elder' (zS_ HO_15) (Kd.S_base ho0) hb); replace HO_16 := zR HO_16 hb; replace HO_17 := A0_ (Kd.S_elder' (zS_ HO_17) (Kd.S_base ho0) hb); replace HO_476000 := zR HO_476000 hb; replace HO_476001 := zR HO_476001 hb; replace HO489 := zR HO489 hb; replace HO492 := zR HO492 hb; replace BK450 := zK BK450 hb; replace BK475 := zK BK475 hb; replace HB := zB HB hb; (try clear hb); (try clear ho0); obtain ⟨Ao144, co144, eo144⟩ := Kd.S_slice HO496.out; subst eo144) | ((with_reducible refine gC (f := 22) rfl ?_); refine zJ (some 81) Try.func22 #[.slice Ao49 t476.length co49, .slice Ao144 t494.length co144] ?_; (with_reducible refine (laws_eqIntSS.calls kj25 _ _ t476 _ _ t494 false _ ?side1 ?side2 ?side3 ?side4 A63.out).mono ?_); (case side1 => exact zDS HO_15); (case side2 => exact (Kd.S_reads' HO_15.out).2.1); (case side3 => exact zDS HO496); (case side4 => exact (Kd.S_reads' HO496.out).2.1); rintro e w' ⟨rfl, ⟨nd, rfl⟩⟩; refine ⟨_, rfl, ?_⟩))
    go_ret
    exact ⟨by first | rfl | (simp [*] <;> rfl), zB_ HB⟩
   replace c61 := Bool.eq_false_iff.mpr c61; subst c61
   rw [if_neg (show ¬ (false = true) by decide)] at H
   obtain rfl := sI H
   try go_wp2
   replace HO_12 := A0_ (sD HO_12.out)
   replace HO_15 := A0_ (sD HO_15.out)
   replace HO_16 := A0_ (rD HO_16.out)
   replace HO_17 := A0_ (sD HO_17.out)
   replace HO_476000 := A0_ (rD HO_476000.out)
   replace HO_476001 := A0_ (rD HO_476001.out)
   replace BK450 := A0_ (kD BK450.out)
   replace BK475 := A0_ (kD BK475.out)
   replace HB := A0_ (bD HB.out)
   refine start_ (n := 5) (S := fun w' => w'.cell? ⟨gb475, 0, none⟩ = some (.slice Ao42 t469.length co42) ∧ w'.cell? ⟨gb475, 1, none⟩ = some (.slice Ao45 t472.length co45) ∧ w'.cell? ⟨gb450, 0, none⟩ = some (.slice A0_0 l0_0.length c0_0) ∧ w'.cell? ⟨gb450, 1, none⟩ = some (.slice A0_1 l0_1.length c0_1)) (ds := []) #[false, false, false, false, false] (by kernel_rfl) rfl rfl ⟨(kC BK475.out 0).trans rfl, (kC BK475.out 1).trans rfl, (kC BK450.out 0).trans rfl, (kC BK450.out 1).trans rfl⟩ (fun hHeld => ?_)
   generalize wc.drew = w145 at HO_12 HO_15 HO_16 HO_17 HO_476000 HO_476001 BK450 BK475 HB hHeld ⊢
   refine take_ (i := 0) (N := some 73) (v := ?_) (a' := ?_) #[true, false, false, false, false] rfl rfl (by kernel_rfl) (fun _ _ _ h => h) (Or.inl ⟨by rfl, ?_⟩) hHeld ?_ ?_
   rotate_left
   ·rintro w' ⟨s0, s1, s2, s3⟩
    go_simp
    with_reducible rfl
   rotate_left
   ·simp only [Act.put, List.setIfInBounds_toArray, List.set_cons_zero, List.set_cons_succ, i64_w, i32_w]
    rfl
   refine take_ (i := 1) (N := some 74) (v := ?_) (a' := ?_) #[true, true, false, false, false] rfl rfl (by kernel_rfl) (fun _ _ _ h => h) (Or.inl ⟨by rfl, ?_⟩) hHeld ?_ ?_
   rotate_left
   ·rintro w' ⟨s0, s1, s2, s3⟩
    go_simp
    with_reducible rfl
   rotate_left
   ·simp only [Act.put, List.setIfInBounds_toArray, List.set_cons_zero, List.set_cons_succ, i64_w, i32_w]
    rfl
   refine one_ (i := 2) (N := some 75) #[true, true, true, false, false] rfl rfl (by kernel_rfl) (by decide) (fun K hK => ?_)
   refine goes_ Try.func18 (by kernel_rfl) rfl #[.agg #[.slice A0_0 l0_0.length c0_0, .slice A0_1 l0_1.length c0_1]] (by rfl) rfl rfl (by (try simp only [List.map_toArray, List.map_cons, List.map_nil]); first | done | rfl | (simp only [List.length_drop, List.length_take]; rfl)) ?_
   with_reducible refine (laws_toMap.calls kj25 _ _ l0_0 _ _ l0_1 t487 t490 _ ?side1 ?side2 ?side3 ?side4 A59.out).mono ?_
   (case side1 => exact zC HR0_0 HB)
   (case side2 => exact HC0_0.out)
   (case side3 => exact zC HR0_1 HB)
   (case side4 => exact HC0_1.out)
   rintro e w146 ⟨v488, v491, rfl, ho0, ho1, hb⟩
   refine ⟨_, rfl, ?_⟩
   replace HO_12 := A0_ (sM (Kd.S_told (Kd.S_told (Kd.S_old (zS_ HO_12) hb) (Kd.R_base ho0)) (Kd.R_base ho1)) (fun _ h_ => h_.1))
   replace HO_15 := A0_ (sM (Kd.S_told (Kd.S_told (Kd.S_old (zS_ HO_15) hb) (Kd.R_base ho0)) (Kd.R_base ho1)) (fun _ h_ => h_.1))
   replace HO_17 := A0_ (sM (Kd.S_told (Kd.S_told (Kd.S_old (zS_ HO_17) hb) (Kd.R_base ho0)) (Kd.R_base ho1)) (fun _ h_ => h_.1))
   have HO489 := A0_ (rL (Kd.R_new' (Kd.R_new' (Kd.R_new' ho0 (rX (zR_ HO_16))) (rX (zR_ HO_476000))) (rX (zR_ HO_476001))) (bZ (zB_ HB)))
   have HO492 := A0_ (rL (Kd.R_new' (Kd.R_new' (Kd.R_new' ho1 (rX (zR_ HO_16))) (rX (zR_ HO_476000))) (rX (zR_ HO_476001))) (bZ (zB_ HB)))
   replace HO_16 := A0_ (rM (rT (rT (rO (zR_ HO_16) hb) (Kd.R_base ho0)) (Kd.R_base ho1)) (fun _ h_ => h_.1))
   replace HO_476000 := A0_ (rM (rT (rT (rO (zR_ HO_476000) hb) (Kd.R_base ho0)) (Kd.R_base ho1)) (fun _ h_ => h_.1))
   replace HO_476001 := A0_ (rM (rT (rT (rO (zR_ HO_476001) hb) (Kd.R_base ho0)) (Kd.R_base ho1)) (fun _ h_ => h_.1))
   replace BK450 := zK BK450 hb; replace BK475 := zK BK475 hb; replace HB := zB HB hb; (try clear hb); (try clear hb2); (try clear hk); (try clear hi); (try clear ho0); (try clear ho1); obtain ⟨Ao147, co147, eo147⟩ := rS HO489.out
   (first | subst eo147 | (injection eo147 with f1_ f2_ f3_; have f4_ := f1_.symm; have f5_ := f3_.symm; clear f1_ f2_ f3_; subst f4_; subst f5_))
   obtain ⟨Ao148, co148, eo148⟩ := rS HO492.out
   (first | subst eo148 | (injection eo148 with f1_ f2_ f3_; have f4_ := f1_.symm; have f5_ := f3_.symm; clear f1_ f2_ f3_; subst f4_; subst f5_))
   refine hK.out _ _ ⟨(kC BK475.out 0).trans rfl, (kC BK475.out 1).trans rfl, (kC BK450.out 0).trans rfl, (kC BK450.out 1).trans rfl⟩ (fun hHeld => ?_)
   clear hK K
   refine norm_ (a' := ?_) ?_ ?_
   rotate_left
   ·show Act.put _ (some 75) _ = _
    simp only [Act.put, List.setIfInBounds_toArray, List.set_cons_zero, List.set_cons_succ, i64_w, i32_w]
    rfl
   refine one_ (i := 3) (N := some 76) #[true, true, true, true, false] rfl rfl (by kernel_rfl) (by decide) (fun K hK => ?_)
   refine goes_ Try.func21 (by kernel_rfl) rfl #[.agg #[.slice Ao42 t469.length co42, .slice Ao45 t472.length co45], .agg #[.slice Ao147 t487.length co147, .slice Ao148 t490.length co148]] (by rfl) rfl rfl (by (try simp only [List.map_toArray, List.map_cons, List.map_nil]); first | done | rfl | (simp only [List.length_drop, List.length_take]; rfl)) ?_
   with_reducible refine (laws_eqMap.calls kj25 _ _ t469 _ _ t472 _ _ t487 _ _ t490 false _ ?side1 ?side2 ?side3 ?side4 ?side5 ?side6 ?side7 ?side8 A60.out).mono ?_
   (case side1 => exact zD HO_476000)
   (case side2 => exact (rR HO_476000.out).2.1)
   (case side3 => exact zD HO_476001)
   (case side4 => exact (rR HO_476001.out).2.1)
   (case side5 => exact zD HO489)
   (case side6 => exact (rR HO489.out).2.1)
   (case side7 => exact zD HO492)
   (case side8 => exact (rR HO492.out).2.1)
   rintro e w149 ⟨rfl, hb⟩
   refine ⟨_, rfl, ?_⟩
   replace HO_12 := zS HO_12 hb; replace HO_15 := zS HO_15 hb; replace HO_16 := zR HO_16 hb; replace HO_17 := zS HO_17 hb; replace HO_476000 := zR HO_476000 hb; replace HO_476001 := zR HO_476001 hb; replace HO489 := zR HO489 hb; replace HO492 := zR HO492 hb; replace BK450 := zK BK450 hb; replace BK475 := zK BK475 hb; replace HB := zB HB hb; (try clear hb); (try clear hb2); (try clear hk); (try clear hi)
   refine hK.out _ _ ⟨(kC BK475.out 0).trans rfl, (kC BK475.out 1).trans rfl, (kC BK450.out 0).trans rfl, (kC BK450.out 1).trans rfl⟩ (fun hHeld => ?_)
   clear hK K
   refine norm_ (a' := ?_) ?_ ?_
   rotate_left
   ·show Act.put _ (some 76) _ = _
    simp only [Act.put, List.setIfInBounds_toArray, List.set_cons_zero, List.set_cons_succ, i64_w, i32_w]
    rfl
   refine pure_ (i := 4) (N := some 77) (v := ?_) (a' := ?_) #[true, true, true, true, true] rfl rfl (by kernel_rfl) (fun _ _ _ h => h) (Or.inl ⟨by rfl, ?_⟩) ?_ ?_
   rotate_left
   ·intro w'
    go_simp
    with_reducible rfl
   rotate_left
   ·simp only [Act.put, List.setIfInBounds_toArray, List.set_cons_zero, List.set_cons_succ, i64_w, i32_w]
    rfl
   refine done_ (by kernel_rfl) ?_
   try go_wp2
   go_ret
   exact ⟨by first | rfl | (simp [*] <;> rfl), zB_ HB⟩

end Go.Proofs.Ytmcgkckdnelcdaa.PFnExactCoverConj
