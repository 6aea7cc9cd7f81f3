-- Made by a program of this session (wip/tools) out of the loaded program; not trusted: Lean checks it.
import Derived.Test.YtmcgkckdnelcdaaPFnExactCoverTreex0
import Derived.Test.YtmcgkckdnelcdaaPFnExactCoverTreex1
import Derived.Test.YtmcgkckdnelcdaaPFnExactCoverTreex2
import Derived.Test.YtmcgkckdnelcdaaPFnExactCoverTreex7
import Derived.Test.YtmcgkckdnelcdaaPFnExactCoverTreex14
-- packed
namespace Go.Proofs.Ytmcgkckdnelcdaa.PFnExactCoverTree
open Go.RowKit Go.Proofs.YtmcgkckdnelcdaaW.PrintWords Go.Proofs.YtmcgkckdnelcdaaW.PrintLast Go.Proofs.YtmcgkckdnelcdaaW.PrintMore
attribute [local go_sem] max2_int min2_int max_two min_two max_three min_three max_four min_four   -- for this text's walks alone
set_option linter.unusedVariables false
set_option linter.unusedSimpArgs false

/-! ### laws_FnExactCoverTree: function 13 -/
mutual
def laws_FnExactCoverTree.j0 : Nat → Int → List (List Int) → List (List Int) → Bool → List (List Int) → List (List Int) → Bool → Bool → List Int → List Int → List Int → List Int → Option (Bool)
  | 0, _, _, _, _, _, _, _, _, _, _, _, _ => none
  | k + 1, x1, x2, x8, x9, x11, x12, x13, x57, x598000, x598001, x620000, x620001 => if x57 = true then (some false) else ((laws_toMap.f k x598000 x598001).bind fun bt628 => ((laws_eqMap.f k x620000 x620001 bt628.1 bt628.2).bind fun t634 => (if t634 = true then ((laws_toIntSS.f k x2).bind fun t635 => ((laws_eqIntSS.f k x11 t635).bind fun t638 => (if t638 = true then ((laws_markMap.f k x620000 x620001 1).bind fun bt639 => ((laws_markIntSS.f k x11 bt639.1).bind fun bt642 => (if bt642.1 < 0 then (laws_FnExactCoverTree.j1 k x1 x2 x8 x9 x12 true x598000 x598001) else ((laws_eqIntSS.f k x12 x8).bind fun t643 => (if t643 = true then (laws_FnExactCoverTree.j1 k x1 x2 x8 x9 x12 (x13 != x9) x598000 x598001) else (laws_FnExactCoverTree.j1 k x1 x2 x8 x9 x12 true x598000 x598001)))))) else (some false)))) else (some false))))
def laws_FnExactCoverTree.j1 : Nat → Int → List (List Int) → List (List Int) → Bool → List (List Int) → Bool → List Int → List Int → Option (Bool)
  | 0, _, _, _, _, _, _, _, _ => none
  | k + 1, x1, x2, x8, x9, x12, x86, x598000, x598001 => if x86 = true then (some false) else ((laws_markIntSS.f k x12 1).bind fun bt644 => ((laws_heldIntSS.f k bt644.2 1).bind fun t645 => (if t645 < 0 then (some false) else (if t645 = bt644.1 then ((laws_toMap.f k x598000 x598001).bind fun bt646 => ((laws_toIntSS.f k x2).bind fun t652 => ((impl_CoverTree.f k bt646.1 bt646.2 x1 t652).bind fun bt655 => ((laws_eqIntSS.f k bt655.1 x8).bind fun t659 => (if t659 = true then (laws_FnExactCoverTree.j2 k bt644.2 bt644.1 (bt655.2 != x9)) else (laws_FnExactCoverTree.j2 k bt644.2 bt644.1 true)))))) else (some false)))))
def laws_FnExactCoverTree.j2 : Nat → List (List Int) → Int → Bool → Option (Bool)
  | 0, _, _, _ => none
  | k + 1, x12, x15, x115 => if x115 = true then (some false) else ((laws_heldIntSS.f k x12 1).bind fun t660 => (if t660 < 0 then (some false) else (if t660 = x15 then (some true) else (some false))))
end
def laws_FnExactCoverTree.f (k : Nat) (l0_0 : List Int) (l0_1 : List Int) (a1 : Int) (l2 : List (List Int)) : Option (Bool) := (laws_szMap.f l0_0 l0_1 1048576).bind fun t598 => (if t598 < 0 then (some true) else ((laws_szIntSS.f k l2 t598).bind fun t599 => (if t599 < 0 then (some true) else ((laws_toMap.f k l0_0 l0_1).bind fun bt600 => ((laws_toIntSS.f k l2).bind fun t606 => ((spec_CoverTree.f k bt600.1 bt600.2 a1 t606).bind fun bt609 => ((laws_toMap.f k l0_0 l0_1).bind fun bt613 => ((laws_toIntSS.f k l2).bind fun t620 => ((impl_CoverTree.f k bt613.1 bt613.2 a1 t620).bind fun bt623 => ((laws_eqIntSS.f k bt623.1 bt609.1).bind fun t627 => (if t627 = true then (laws_FnExactCoverTree.j0 k a1 l2 bt609.1 bt609.2 t620 bt623.1 bt623.2 (bt623.2 != bt609.2) l0_0 l0_1 bt613.1 bt613.2) else (laws_FnExactCoverTree.j0 k a1 l2 bt609.1 bt609.2 t620 bt623.1 bt623.2 true l0_0 l0_1 bt613.1 bt613.2))))))))))))
theorem laws_heldIntSS.calls2 {n : Nat} {l0 : List (List Int)} (hn : l0.length = n) (k : Nat) (A0 : Option Addr) (c0 : Nat) (l1 : List (List Int)) (a1 : Int) (r : Int) (w : World) (hr0 : Kd.C (Kd.slice 3 (Kd.int .i64)) w A0 l0.length l0) (hc0 : n ≤ c0) (h : laws_heldIntSS.f k l0 a1 = some r) :
    Calls Try.prog 27 #[.slice A0 n c0, .int .i64 a1] w fun e w' => e = .returned (.int .i64 r) ∧ Drawn0 w w' := by
 subst hn
 exact laws_heldIntSS.calls k A0 c0 l0 a1 r w hr0 hc0 h
set_option maxHeartbeats 8000000 in
set_option maxRecDepth 100000 in
theorem laws_FnExactCoverTree.calls (k : Nat) (A0_0 : Option Addr) (c0_0 : Nat) (l0_0 : List Int) (A0_1 : Option Addr) (c0_1 : Nat) (l0_1 : List Int) (a1 : Int) (A2 : Option Addr) (c2 : Nat) (l2 : List (List Int)) (r : Bool) (w : World) (hr0_0 : Kd.C (Kd.int .i64) w A0_0 l0_0.length l0_0) (hc0_0 : l0_0.length ≤ c0_0) (hr0_1 : Kd.C (Kd.int .i64) w A0_1 l0_1.length l0_1) (hc0_1 : l0_1.length ≤ c0_1) (hr2 : Kd.C (Kd.slice 3 (Kd.int .i64)) w A2 l2.length l2) (hc2 : l2.length ≤ c2) (h : laws_FnExactCoverTree.f k l0_0 l0_1 a1 l2 = some r) :
    Calls Try.prog 13 #[.agg #[.slice A0_0 l0_0.length c0_0, .slice A0_1 l0_1.length c0_1], .int .i64 a1, .slice A2 l2.length c2] w fun e w' => e = .returned (.bool r) ∧ Below w.heap.size w w' := by
 have hu24 := Try.underlying24; have hu29 := Try.underlying29; have HR0_0 := A0_ hr0_0; have HC0_0 := A0_ hc0_0; clear hr0_0 hc0_0; have HR0_1 := A0_ hr0_1; have HC0_1 := A0_ hc0_1; clear hr0_1 hc0_1; have HR2 := A0_ hr2; have HC2 := A0_ hc2; clear hr2 hc2
 have HB := A0_ (Below.refl w.heap.size w)
 have H : ((laws_szMap.f l0_0 l0_1 1048576).bind fun t598 => (if t598 < 0 then (some true) else ((laws_szIntSS.f k l2 t598).bind fun t599 => (if t599 < 0 then (some true) else ((laws_toMap.f k l0_0 l0_1).bind fun bt600 => ((laws_toIntSS.f k l2).bind fun t606 => ((spec_CoverTree.f k bt600.1 bt600.2 a1 t606).bind fun bt609 => ((laws_toMap.f k l0_0 l0_1).bind fun bt613 => ((laws_toIntSS.f k l2).bind fun t620 => ((impl_CoverTree.f k bt613.1 bt613.2 a1 t620).bind fun bt623 => ((laws_eqIntSS.f k bt623.1 bt609.1).bind fun t627 => (if t627 = true then (laws_FnExactCoverTree.j0 k a1 l2 bt609.1 bt609.2 t620 bt623.1 bt623.2 (bt623.2 != bt609.2) l0_0 l0_1 bt613.1 bt613.2) else (laws_FnExactCoverTree.j0 k a1 l2 bt609.1 bt609.2 t620 bt623.1 bt623.2 true l0_0 l0_1 bt613.1 bt613.2))))))))))))) = some r := h
 clear h; obtain ⟨t598, A4, H⟩ := zbind H
 by_cases c5 : t598 < 0
 ·rw [if_pos c5] at H
  have c5b0 := dT c5; clear c5; obtain rfl := sI H
  go_enter Try.func13, Try.ntmps13
  go_wp2_with (first | ((with_reducible refine gD (N := 3) rfl ?_); refine zX (N := 3) (cs := #[.slice A0_0 l0_0.length c0_0, .slice A0_1 l0_1.length c0_1]) (t := 24) ?_; intro gb597 hg w6 hbox hb; have BK597 := A0_ (hbox); have GW597 := zG hg HB; have GE597 := zG hg HB; replace HB := zB HB hb; clear hb hbox hg; have hcz7_0 := zc0 BK597; have hcz7_1 := zc1 BK597; have hfz7_0 := kF BK597.out 0; have hfz7_1 := kF BK597.out 1) | ((with_reducible refine gC (f := 15) rfl ?_); refine zJ (some 21) Try.func15 #[.agg #[.slice A0_0 l0_0.length c0_0, .slice A0_1 l0_1.length c0_1], .int .i64 1048576] ?_; (with_reducible refine (laws_szMap.calls _ _ l0_0 _ _ l0_1 1048576 t598 _ ?side1 ?side2 ?side3 ?side4 A4.out).mono ?_); (case side1 => exact zC HR0_0 HB); (case side2 => exact HC0_0.out); (case side3 => exact zC HR0_1 HB); (case side4 => exact HC0_1.out); rintro e w8 ⟨rfl, hb⟩; refine ⟨_, rfl, ?_⟩; replace BK597 := zK BK597 hb; replace HB := zB HB hb; (try clear hb)))
  go_ret
  exact ⟨by first | rfl | (simp [*] <;> rfl), zB_ HB⟩
 rw [if_neg c5] at H; have c5b0 := dF c5; clear c5; obtain ⟨t599, A9, H⟩ := zbind H
 by_cases c10 : t599 < 0
 ·rw [if_pos c10] at H
  have c10b0 := dT c10; clear c10; obtain rfl := sI H
  go_enter Try.func13, Try.ntmps13
  go_wp2_with (first | ((with_reducible refine gD (N := 3) rfl ?_); refine zX (N := 3) (cs := #[.slice A0_0 l0_0.length c0_0, .slice A0_1 l0_1.length c0_1]) (t := 24) ?_; intro gb597 hg w11 hbox hb; have BK597 := A0_ (hbox); have GW597 := zG hg HB; have GE597 := zG hg HB; replace HB := zB HB hb; clear hb hbox hg; have hcz12_0 := zc0 BK597; have hcz12_1 := zc1 BK597; have hfz12_0 := kF BK597.out 0; have hfz12_1 := kF BK597.out 1) | ((with_reducible refine gC (f := 15) rfl ?_); refine zJ (some 21) Try.func15 #[.agg #[.slice A0_0 l0_0.length c0_0, .slice A0_1 l0_1.length c0_1], .int .i64 1048576] ?_; (with_reducible refine (laws_szMap.calls _ _ l0_0 _ _ l0_1 1048576 t598 _ ?side1 ?side2 ?side3 ?side4 A4.out).mono ?_); (case side1 => exact zC HR0_0 HB); (case side2 => exact HC0_0.out); (case side3 => exact zC HR0_1 HB); (case side4 => exact HC0_1.out); rintro e w13 ⟨rfl, hb⟩; refine ⟨_, rfl, ?_⟩; replace BK597 := zK BK597 hb; replace HB := zB HB hb; (try clear hb)) | ((with_reducible refine gC (f := 16) rfl ?_); refine zJ (some 26) Try.func16 #[.slice A2 l2.length c2, .int .i64 t598] ?_; (with_reducible refine (laws_szIntSS.calls k _ _ l2 t598 t599 _ ?side1 ?side2 A9.out).mono ?_); (case side1 => exact zC HR2 HB); (case side2 => exact HC2.out); rintro e w' ⟨rfl, ⟨nd, rfl⟩⟩; refine ⟨_, rfl, ?_⟩))
  go_ret
  exact ⟨by first | rfl | (simp [*] <;> rfl), zB_ HB⟩
 rw [if_neg c10] at H; have c10b0 := dF c10; clear c10; obtain ⟨⟨t600, t603⟩, A14, H⟩ := zbind H; dsimp only at H; obtain ⟨t606, A15, H⟩ := zbind H; obtain ⟨⟨t609, t612⟩, A16, H⟩ := zbind H; dsimp only at H; obtain ⟨⟨t613, t616⟩, A17, H⟩ := zbind H; dsimp only at H; obtain ⟨t620, A18, H⟩ := zbind H; obtain ⟨⟨t623, t626⟩, A19, H⟩ := zbind H; dsimp only at H; have HC20 := A0_ H; clear H
 go_enter Try.func13, Try.ntmps13
 go_upto_region 12 with (first | ((with_reducible refine gD (N := 3) rfl ?_); refine zX (N := 3) (cs := #[.slice A0_0 l0_0.length c0_0, .slice A0_1 l0_1.length c0_1]) (t := 24) ?_; intro gb597 hg w21 hbox hb; have BK597 := A0_ (hbox); have GW597 := zG hg HB; have GE597 := zG hg HB; replace HB := zB HB hb; clear hb hbox hg; have hcz22_0 := zc0 BK597; have hcz22_1 := zc1 BK597; have hfz22_0 := kF BK597.out 0; have hfz22_1 := kF BK597.out 1) | ((with_reducible refine gC (f := 15) rfl ?_); refine zJ (some 21) Try.func15 #[.agg #[.slice A0_0 l0_0.length c0_0, .slice A0_1 l0_1.length c0_1], .int .i64 1048576] ?_; (with_reducible refine (laws_szMap.calls _ _ l0_0 _ _ l0_1 1048576 t598 _ ?side1 ?side2 ?side3 ?side4 A4.out).mono ?_); (case side1 => exact zC HR0_0 HB); (case side2 => exact HC0_0.out); (case side3 => exact zC HR0_1 HB); (case side4 => exact HC0_1.out); rintro e w23 ⟨rfl, hb⟩; refine ⟨_, rfl, ?_⟩; replace BK597 := zK BK597 hb; replace HB := zB HB hb; (try clear hb)) | ((with_reducible refine gC (f := 16) rfl ?_); refine zJ (some 26) Try.func16 #[.slice A2 l2.length c2, .int .i64 t598] ?_; (with_reducible refine (laws_szIntSS.calls k _ _ l2 t598 t599 _ ?side1 ?side2 A9.out).mono ?_); (case side1 => exact zC HR2 HB); (case side2 => exact HC2.out); rintro e w' ⟨rfl, ⟨nd, rfl⟩⟩; refine ⟨_, rfl, ?_⟩; (try (rw [drewN_self w23]; generalize hq_ : World.drewN w23 _ = w23; have n0_ : Aside0 (w23.heap[gb597]? = some (.cells #[.slice A0_0 l0_0.length c0_0, .slice A0_1 l0_1.length c0_1] 24 (0, 0))) := ⟨by rw [← hq_]; exact (zK_ BK597)⟩; have n1_ : Aside0 (Below w.heap.size w w23) := ⟨by rw [← hq_]; exact (zB_ HB)⟩; clear BK597 HB hq_; have BK597 := n0_; have HB := n1_; clear n0_ n1_)); have hcz24_0 := zc0 BK597; have hcz24_1 := zc1 BK597; have hfz24_0 := kF BK597.out 0; have hfz24_1 := kF BK597.out 1) | ((with_reducible refine gC (f := 18) rfl ?_); refine zJ (some 31) Try.func18 #[.agg #[.slice A0_0 l0_0.length c0_0, .slice A0_1 l0_1.length c0_1]] ?_; (with_reducible refine (laws_toMap.calls k _ _ l0_0 _ _ l0_1 t600 t603 _ ?side1 ?side2 ?side3 ?side4 A14.out).mono ?_); (case side1 => exact zC HR0_0 HB); (case side2 => exact HC0_0.out); (case side3 => exact zC HR0_1 HB); (case side4 => exact HC0_1.out); rintro e w25 ⟨v601, v604, rfl, ho0, ho1, hb⟩; refine ⟨_, rfl, ?_⟩; have HO602 := A0_ (rL ho0 (bZ (zB_ HB))); have HO605 := A0_ (rL ho1 (bZ (zB_ HB))); replace BK597 := zK BK597 hb; replace HB := zB HB hb; (try clear hb); (try clear ho0); (try clear ho1)) | ((with_reducible refine gC (f := 19) rfl ?_); refine zJ (some 34) Try.func19 #[.slice A2 l2.length c2] ?_; (with_reducible refine (laws_toIntSS.calls k _ _ l2 t606 _ ?side1 ?side2 A15.out).mono ?_); (case side1 => exact zC HR2 HB); (case side2 => exact HC2.out); rintro e w26 ⟨v607, rfl, ho0, hb⟩; refine ⟨_, rfl, ?_⟩; have HO608 := A0_ (Kd.S_lower (Kd.S_new' (Kd.S_new' ho0 (rX (zR_ HO602))) (rX (zR_ HO605))) (bZ (zB_ HB))); replace HO602 := zR HO602 hb; replace HO605 := zR HO605 hb; replace BK597 := zK BK597 hb; replace HB := zB HB hb; (try clear hb); (try clear ho0); obtain ⟨Ao27, co27, eo27⟩ := rS HO602.out; subst eo27; obtain ⟨Ao28, co28, eo28⟩ := rS HO605.out; subst eo28; obtain ⟨Ao29, co29, eo29⟩ := Kd.S_slice HO608.out; subst eo29) | ((with_reducible refine gC (f := 49) rfl ?_); refine zJ (some 35) Try.func49 #[.agg #[.slice Ao27 t600.length co27, .slice Ao28 t603.length co28], .int .i64 a1, .slice Ao29 t606.length co29] ?_; (with_reducible refine (spec_CoverTree.calls k _ _ t600 _ _ t603 a1 (fun k_ => (((True ∧ some k_ ≠ (.slice Ao27 t600.length co27 : Value).ownBlock) ∧ some k_ ≠ (.slice Ao28 t603.length co28 : Value).ownBlock) ∧ k_ ≠ gb597)) _ _ t606 t609 t612 _ ?side1 ?side2 ?side3 ?side4 ?side5 A16.out).mono ?_); (case side1 => exact zD HO602); (case side2 => exact (rR HO602.out).2.1); (case side3 => exact zD HO605); (case side4 => exact (rR HO605.out).2.1); (case side5 => exact Kd.S_V (Kd.S_types (HO608.out) BK597.out (by decide))); rintro e w30 ⟨v610, rfl, ho0, hb⟩; refine ⟨_, rfl, ?_⟩; have HO611 := A0_ (Kd.S_lower (Kd.S_new' (Kd.S_new' (Kd.S_new' (sM (ok' := fun k_ => True) ho0 (fun _ hk_ => trivial)) (rX (zR_ HO602))) (rX (zR_ HO605))) (Kd.S_lt (zS_ HO608))) (bZ (zB_ HB))); replace HO602 := zR HO602 hb; replace HO605 := zR HO605 hb; replace HO608 := A0_ (Kd.S_elder' (zS_ HO608) (Kd.S_base ho0) hb); replace BK597 := zK BK597 hb; replace HB := zB HB hb; (try clear hb); (try clear ho0); have hcz31_0 := zc0 BK597; have hcz31_1 := zc1 BK597; have hfz31_0 := kF BK597.out 0; have hfz31_1 := kF BK597.out 1) | ((with_reducible refine gC (f := 18) rfl ?_); refine zJ (some 39) Try.func18 #[.agg #[.slice A0_0 l0_0.length c0_0, .slice A0_1 l0_1.length c0_1]] ?_; (with_reducible refine (laws_toMap.calls k _ _ l0_0 _ _ l0_1 t613 t616 _ ?side1 ?side2 ?side3 ?side4 A17.out).mono ?_); (case side1 => exact zC HR0_0 HB); (case side2 => exact HC0_0.out); (case side3 => exact zC HR0_1 HB); (case side4 => exact HC0_1.out); rintro e w32 ⟨v614, v617, rfl, ho0, ho1, hb⟩; refine ⟨_, rfl, ?_⟩; replace HO608 := A0_ (sM (Kd.S_told (Kd.S_told (Kd.S_old (zS_ HO608) hb) (Kd.R_base ho0)) (Kd.R_base ho1)) (fun _ h_ => h_.1)); replace HO611 := A0_ (sM (Kd.S_told (Kd.S_told (Kd.S_old (zS_ HO611) hb) (Kd.R_base ho0)) (Kd.R_base ho1)) (fun _ h_ => h_.1)); have HO615 := A0_ (rL (Kd.R_new' (Kd.R_new' ho0 (rX (zR_ HO602))) (rX (zR_ HO605))) (bZ (zB_ HB))); have HO618 := A0_ (rL (Kd.R_new' (Kd.R_new' ho1 (rX (zR_ HO602))) (rX (zR_ HO605))) (bZ (zB_ HB))); replace HO602 := A0_ (rM (rT (rT (rO (zR_ HO602) hb) (Kd.R_base ho0)) (Kd.R_base ho1)) (fun _ h_ => h_.1)); replace HO605 := A0_ (rM (rT (rT (rO (zR_ HO605) hb) (Kd.R_base ho0)) (Kd.R_base ho1)) (fun _ h_ => h_.1)); replace BK597 := zK BK597 hb; replace HB := zB HB hb; (try clear hb); (try clear ho0); (try clear ho1)) | ((with_reducible refine gD (N := 10) rfl ?_); refine zX (N := 10) (cs := #[.slice none 0 0, .slice none 0 0]) (t := 29) ?_; intro gb619 hg w33 hbox hb; replace HO602 := zR HO602 hb; replace HO605 := zR HO605 hb; replace HO608 := zS HO608 hb; replace HO611 := zS HO611 hb; replace HO615 := zR HO615 hb; replace HO618 := zR HO618 hb; have BK619 := A0_ (hbox); have GW619 := zG hg HB; have GE619 := zG hg HB; replace HB := zB HB hb; have NB597_619 := zL hg BK597; have NB619_597 := zM hg BK597; replace BK597 := zK BK597 hb; clear hb hbox hg; obtain ⟨Ao34, co34, eo34⟩ := rS HO615.out; subst eo34; have hnb35 := NB619_597.out; have hnc35 := NB597_619.out; have hcz36_0 := zc0 BK619; have hcz36_1 := zc1 BK619; have hfz36_0 := kF BK619.out 0; have hfz36_1 := kF BK619.out 1; obtain ⟨Ao37, co37, eo37⟩ := rS HO618.out; subst eo37) | ((with_reducible refine gC (f := 19) rfl ?_); refine zJ (some 41) Try.func19 #[.slice A2 l2.length c2] ?_; (with_reducible refine (laws_toIntSS.calls k _ _ l2 t620 _ ?side1 ?side2 A18.out).mono ?_); (case side1 => exact cB HR2.out (zB_ HB)); (case side2 => exact HC2.out); rintro e w38 ⟨v621, rfl, ho0, hb⟩; refine ⟨_, rfl, ?_⟩; have HO622 := A0_ (Kd.S_lower (Kd.S_new' (Kd.S_new' (Kd.S_new' (Kd.S_new' (Kd.S_new' (Kd.S_new' (sM (Kd.S_bound ho0) (fun _ hk => hk.2.1)) (rX (zF HO602 BK619 (.slice Ao34 t613.length co34) (.slice Ao37 t616.length co37) 0 1))) (rX (zF HO605 BK619 (.slice Ao34 t613.length co34) (.slice Ao37 t616.length co37) 0 1))) (Kd.S_lt (zFS HO608 BK619 (.slice Ao34 t613.length co34) (.slice Ao37 t616.length co37) 0 1))) (Kd.S_lt (zFS HO611 BK619 (.slice Ao34 t613.length co34) (.slice Ao37 t616.length co37) 0 1))) (rX (zF HO615 BK619 (.slice Ao34 t613.length co34) (.slice Ao37 t616.length co37) 0 1))) (rX (zF HO618 BK619 (.slice Ao34 t613.length co34) (.slice Ao37 t616.length co37) 0 1))) (bZ (zB_ HB))); replace HO602 := A0_ (rB (zF HO602 BK619 (.slice Ao34 t613.length co34) (.slice Ao37 t616.length co37) 0 1) hb); replace HO605 := A0_ (rB (zF HO605 BK619 (.slice Ao34 t613.length co34) (.slice Ao37 t616.length co37) 0 1) hb); replace HO608 := A0_ (Kd.S_elder' (zFS HO608 BK619 (.slice Ao34 t613.length co34) (.slice Ao37 t616.length co37) 0 1) (Kd.S_base ho0) hb); replace HO611 := A0_ (Kd.S_elder' (sM (Kd.S_bound (zFS HO611 BK619 (.slice Ao34 t613.length co34) (.slice Ao37 t616.length co37) 0 1)) (fun _ hk => And.intro hk.1 hk.2.2.1)) (Kd.S_base ho0) hb); replace HO615 := A0_ (rB (zF HO615 BK619 (.slice Ao34 t613.length co34) (.slice Ao37 t616.length co37) 0 1) hb); replace HO618 := A0_ (rB (zF HO618 BK619 (.slice Ao34 t613.length co34) (.slice Ao37 t616.length co37) 0 1) hb); replace BK597 := A0_ (kB (g := gb597) (o := .cells #[.slice A0_0 l0_0.length c0_0, .slice A0_1 l0_1.length c0_1] 24 (0, 0)) (by (with_reducible repeat refine kA ?_ _); refine blk_far ?_ NB597_619.out _; (with_reducible repeat refine kA ?_ _); refine blk_far ?_ NB597_619.out _; (with_reducible repeat refine kA ?_ _); exact BK597.out) hb); replace BK619 := A0_ (kB (g := gb619) (o := .cells #[.slice Ao34 t613.length co34, .slice Ao37 t616.length co37] 29 (0, 0)) (by (with_reducible repeat refine kA ?_ _); refine blk_put (cs := #[.slice Ao34 t613.length co34, .slice none 0 0]) ?_ 1 _ rfl; (with_reducible repeat refine kA ?_ _); refine blk_put (cs := #[.slice none 0 0, .slice none 0 0]) ?_ 0 _ rfl; (with_reducible repeat refine kA ?_ _); exact BK619.out) hb); replace HB := zB HB hb; (try clear hb); (try clear ho0); have hcz39_0 := zc0 BK619; have hcz39_1 := zc1 BK619; have hfz39_0 := kF BK619.out 0; have hfz39_1 := kF BK619.out 1; obtain ⟨Ao40, co40, eo40⟩ := Kd.S_slice HO622.out; subst eo40) | ((with_reducible refine gC (f := 50) rfl ?_); refine zJ (some 46) Try.func50 #[.agg #[.slice Ao34 t613.length co34, .slice Ao37 t616.length co37], .int .i64 a1, .slice Ao40 t620.length co40] ?_; (with_reducible refine (impl_CoverTree.calls k _ _ t613 _ _ t616 a1 (fun k_ => ((((((((True ∧ some k_ ≠ (.slice Ao27 t600.length co27 : Value).ownBlock) ∧ some k_ ≠ (.slice Ao28 t603.length co28 : Value).ownBlock) ∧ some k_ ≠ (.slice Ao29 t606.length co29 : Value).ownBlock) ∧ some k_ ≠ (v610 : Value).ownBlock) ∧ some k_ ≠ (.slice Ao34 t613.length co34 : Value).ownBlock) ∧ some k_ ≠ (.slice Ao37 t616.length co37 : Value).ownBlock) ∧ k_ ≠ gb597) ∧ k_ ≠ gb619)) _ _ t620 t623 t626 _ ?side1 ?side2 ?side3 ?side4 ?side5 A19.out).mono ?_); (case side1 => exact zD HO615); (case side2 => exact (rR HO615.out).2.1); (case side3 => exact zD HO618); (case side4 => exact (rR HO618.out).2.1); (case side5 => exact Kd.S_V (sM (Kd.S_types (Kd.S_types (HO622.out) BK597.out (by decide)) BK619.out (by decide)) (fun _ hk => (And.imp_left (And.imp_left (And.imp_left (And.imp_left (And.imp_left (And.imp_left (And.imp_left (And.imp_left (fun _ => True.intro))))))))) hk))); rintro e w41 ⟨v624, rfl, ho0, hb⟩; refine ⟨_, rfl, ?_⟩; have HO625 := A0_ (Kd.S_lower (Kd.S_new' (Kd.S_new' (Kd.S_new' (Kd.S_new' (Kd.S_new' (Kd.S_new' (Kd.S_new' (sM (Kd.S_bound ho0) (fun _ hk_ => hk_.2.1)) (rX (zR_ HO602))) (rX (zR_ HO605))) (Kd.S_lt (zS_ HO608))) (Kd.S_lt (zS_ HO611))) (rX (zR_ HO615))) (rX (zR_ HO618))) (Kd.S_lt (zS_ HO622))) (bZ (zB_ HB))); replace HO602 := zR HO602 hb; replace HO605 := zR HO605 hb; replace HO608 := A0_ (Kd.S_elder' (zS_ HO608) (Kd.S_base ho0) hb); replace HO611 := A0_ (Kd.S_elder' (sM (Kd.S_bound (zS_ HO611)) (fun _ hk => And.intro hk.1 hk.2.2.1)) (Kd.S_base ho0) hb); replace HO615 := zR HO615 hb; replace HO618 := zR HO618 hb; replace HO622 := A0_ (Kd.S_elder' (sM (Kd.S_bound (zS_ HO622)) (fun _ hk => And.intro hk.1 hk.2.2.1)) (Kd.S_base ho0) hb); replace BK597 := zK BK597 hb; replace BK619 := zK BK619 hb; replace HB := zB HB hb; (try clear hb); (try clear ho0)))
 (try simp only [Act.put, List.setIfInBounds_toArray, List.set_cons_zero, List.set_cons_succ])
 go_cut [57] (fun v57 wc => ∃ (kq : Nat) (x57_19 : Bool) (M1_ M2_ : Nat), v57 = .bool x57_19 ∧ Aside0 (laws_FnExactCoverTree.j0 kq a1 l2 t609 t612 t620 t623 t626 x57_19 l0_0 l0_1 t613 t616 = some r) ∧ Aside0 (kq ≤ k) ∧ Aside0 (Kd.S (Kd.slice 3 (Kd.int .i64)) 22 wc w.heap.size (fun k_ => some k_ ≠ ((.slice Ao40 t620.length co40) : Value).ownBlock ∧ some k_ ≠ (v624 : Value).ownBlock ∧ some k_ ≠ ((.slice Ao34 t613.length co34) : Value).ownBlock ∧ some k_ ≠ ((.slice Ao37 t616.length co37) : Value).ownBlock ∧ k_ < M1_ ∧ k_ < M2_) v610 t609) ∧ Aside0 (Kd.S (Kd.slice 3 (Kd.int .i64)) 22 wc w.heap.size (fun k_ => some k_ ≠ (v610 : Value).ownBlock ∧ some k_ ≠ (v624 : Value).ownBlock ∧ some k_ ≠ ((.slice Ao34 t613.length co34) : Value).ownBlock ∧ some k_ ≠ ((.slice Ao37 t616.length co37) : Value).ownBlock ∧ M1_ ≤ k_ ∧ k_ < M2_) (.slice Ao40 t620.length co40) t620) ∧ Aside0 (Kd.S (Kd.slice 3 (Kd.int .i64)) 22 wc w.heap.size (fun k_ => some k_ ≠ (v610 : Value).ownBlock ∧ some k_ ≠ ((.slice Ao40 t620.length co40) : Value).ownBlock ∧ some k_ ≠ ((.slice Ao34 t613.length co34) : Value).ownBlock ∧ some k_ ≠ ((.slice Ao37 t616.length co37) : Value).ownBlock ∧ M2_ ≤ k_) v624 t623) ∧ Aside0 (Kd.R (Kd.int .i64) 3 wc w.heap.size (fun k_ => some k_ ≠ ((.slice Ao37 t616.length co37) : Value).ownBlock) (.slice Ao34 t613.length co34) t613) ∧ Aside0 (Kd.R (Kd.int .i64) 3 wc w.heap.size (fun k_ => some k_ ≠ ((.slice Ao34 t613.length co34) : Value).ownBlock) (.slice Ao37 t616.length co37) t616) ∧ Aside0 (wc.heap[gb597]? = some (.cells #[(.slice A0_0 l0_0.length c0_0), (.slice A0_1 l0_1.length c0_1)] 24 (0, 0))) ∧ Aside0 (wc.heap[gb619]? = some (.cells #[(.slice Ao34 t613.length co34), (.slice Ao37 t616.length co37)] 29 (0, 0))) ∧ Aside0 (Below w.heap.size w wc))
 case first =>
  have H := HC20.out; clear HC20; obtain ⟨t627, A42, H⟩ := zbind H
  by_cases c43 : t627 = true
  ·subst c43
   rw [if_pos rfl] at H; have H' := A0_ H; clear H; obtain ⟨Ao44, co44, eo44⟩ := Kd.S_slice HO625.out; subst eo44; obtain ⟨Ao45, co45, eo45⟩ := Kd.S_slice HO611.out; subst eo45
   go_wp2_with (first | ((with_reducible refine gC (f := 22) rfl ?_); refine zJ (some 51) Try.func22 #[.slice Ao44 t623.length co44, .slice Ao45 t609.length co45] ?_; (with_reducible refine (laws_eqIntSS.calls k _ _ t623 _ _ t609 true _ ?side1 ?side2 ?side3 ?side4 A42.out).mono ?_); (case side1 => exact zDS HO625); (case side2 => exact (Kd.S_reads' HO625.out).2.1); (case side3 => exact zDS HO611); (case side4 => exact (Kd.S_reads' HO611.out).2.1); rintro e w' ⟨rfl, ⟨nd, rfl⟩⟩; refine ⟨_, rfl, ?_⟩))
   go_meet
   case rel => exact ⟨_, ((t626 != t612)), _, _, zt, H', zo, ⟨zmS HO611 (fun _ hk => ⟨hk.1.1.2, hk.2, hk.1.1.1.1.1.2, hk.1.1.1.1.2, hk.1.1.1.2, hk.1.2⟩)⟩, ⟨zmS HO622 (fun _ hk => ⟨hk.1.1.1.1.2, hk.2, hk.1.1.1.2, hk.1.1.2, hk.1.1.1.1.1.1.1.1, hk.1.2⟩)⟩, ⟨zmS HO625 (fun _ hk => ⟨hk.1.1.1.2, hk.2, hk.1.1.2, hk.1.2, hk.1.1.1.1.1.1.1⟩)⟩, ⟨zmR HO615 (fun _ hk => hk.1.1)⟩, ⟨zmR HO618 (fun _ hk => hk.1.1)⟩, ⟨zK_ BK597⟩, ⟨zK_ BK619⟩, ⟨zB_ HB⟩⟩
  replace c43 := Bool.eq_false_iff.mpr c43; subst c43
  rw [if_neg (show ¬ (false = true) by decide)] at H
  have H' := A0_ H; clear H; obtain ⟨Ao46, co46, eo46⟩ := Kd.S_slice HO625.out; subst eo46; obtain ⟨Ao47, co47, eo47⟩ := Kd.S_slice HO611.out; subst eo47
  go_wp2_with (first | ((with_reducible refine gC (f := 22) rfl ?_); refine zJ (some 51) Try.func22 #[.slice Ao46 t623.length co46, .slice Ao47 t609.length co47] ?_; (with_reducible refine (laws_eqIntSS.calls k _ _ t623 _ _ t609 false _ ?side1 ?side2 ?side3 ?side4 A42.out).mono ?_); (case side1 => exact zDS HO625); (case side2 => exact (Kd.S_reads' HO625.out).2.1); (case side3 => exact zDS HO611); (case side4 => exact (Kd.S_reads' HO611.out).2.1); rintro e w' ⟨rfl, ⟨nd, rfl⟩⟩; refine ⟨_, rfl, ?_⟩))
  go_meet
  case rel => exact ⟨_, (true), _, _, zt, H', zo, ⟨zmS HO611 (fun _ hk => ⟨hk.1.1.2, hk.2, hk.1.1.1.1.1.2, hk.1.1.1.1.2, hk.1.1.1.2, hk.1.2⟩)⟩, ⟨zmS HO622 (fun _ hk => ⟨hk.1.1.1.1.2, hk.2, hk.1.1.1.2, hk.1.1.2, hk.1.1.1.1.1.1.1.1, hk.1.2⟩)⟩, ⟨zmS HO625 (fun _ hk => ⟨hk.1.1.1.2, hk.2, hk.1.1.2, hk.1.2, hk.1.1.1.1.1.1.1⟩)⟩, ⟨zmR HO615 (fun _ hk => hk.1.1)⟩, ⟨zmR HO618 (fun _ hk => hk.1.1)⟩, ⟨zK_ BK597⟩, ⟨zK_ BK619⟩, ⟨zB_ HB⟩⟩
 case rest =>
  clear HC20; (try clear c1); (try clear c2); (try clear p2); (try clear c3); (try clear c4); (try clear c5); (try clear c5b0); (try clear c10); (try clear c10b0); (try clear c13); (try clear c15); (try clear c16); (try clear c18); (try clear c19); (try clear c22); (try clear c35); (try clear c43); (try clear hcz12_0); (try clear hcz12_1); (try clear hcz22_0); (try clear hcz22_1); (try clear hcz24_0); (try clear hcz24_1); (try clear hcz31_0); (try clear hcz31_1); (try clear hcz36_0); (try clear hcz36_1); (try clear hcz39_0); (try clear hcz39_1); (try clear hcz7_0); (try clear hcz7_1); (try clear hfz12_0); (try clear hfz12_1); (try clear hfz22_0); (try clear hfz22_1); (try clear hfz24_0); (try clear hfz24_1); (try clear hfz31_0); (try clear hfz31_1); (try clear hfz36_0); (try clear hfz36_1); (try clear hfz39_0); (try clear hfz39_1); (try clear hfz7_0); (try clear hfz7_1); obtain ⟨kq, x57_19, M1_, M2_, rfl, HA, HJ19, HO_8, HO_11, HO_12, HO_620000, HO_620001, BK597, BK619, HB⟩ := hcut
  cases kq with
  | zero => exact absurd HA.out (by simp [laws_FnExactCoverTree.j0])
  | succ kj19 =>
   have H := HA.out; clear HA; simp only [laws_FnExactCoverTree.j0] at H
   by_cases c48 : x57_19 = true
   ·subst c48
    rw [if_pos rfl] at H; obtain rfl := sI H
    go_wp2
    go_ret
    exact ⟨by first | rfl | (simp [*] <;> rfl), zB_ HB⟩
   replace c48 := Bool.eq_false_iff.mpr c48; subst c48
   rw [if_neg (show ¬ (false = true) by decide)] at H
   obtain ⟨⟨t628, t631⟩, A49, H⟩ := zbind H; dsimp only at H; obtain ⟨t634, A50, H⟩ := zbind H
   by_cases c51 : t634 = true
   ·subst c51
    rw [if_pos rfl] at H; obtain ⟨t635, A52, H⟩ := zbind H; obtain ⟨t638, A53, H⟩ := zbind H
    by_cases c54 : t638 = true
    ·subst c54
     rw [if_pos rfl] at H; obtain ⟨⟨t639, t640, t641⟩, A55, H⟩ := zbind H; dsimp only at H; obtain ⟨⟨t642, zs⟩, A56, H⟩ := zbind H; dsimp only at H; have HC57 := A0_ H; clear H
     try go_wp2
     replace HO_8 := A0_ (sD HO_8.out)
     replace HO_11 := A0_ (sD HO_11.out)
     replace HO_12 := A0_ (sD HO_12.out)
     replace HO_620000 := A0_ (rD HO_620000.out)
     replace HO_620001 := A0_ (rD HO_620001.out)
     replace BK597 := A0_ (kD BK597.out)
     replace BK619 := A0_ (kD BK619.out)
     replace HB := A0_ (bD HB.out)
     refine start_ (n := 5) (S := fun w' => w'.cell? ⟨gb619, 0, none⟩ = some (.slice Ao34 t613.length co34) ∧ w'.cell? ⟨gb619, 1, none⟩ = some (.slice Ao37 t616.length co37) ∧ w'.cell? ⟨gb597, 0, none⟩ = some (.slice A0_0 l0_0.length c0_0) ∧ w'.cell? ⟨gb597, 1, none⟩ = some (.slice A0_1 l0_1.length c0_1)) (ds := []) #[false, false, false, false, false] (by kernel_rfl) rfl rfl ⟨(kC BK619.out 0).trans rfl, (kC BK619.out 1).trans rfl, (kC BK597.out 0).trans rfl, (kC BK597.out 1).trans rfl⟩ (fun hHeld => ?_)
     generalize wc.drew = w58 at HO_8 HO_11 HO_12 HO_620000 HO_620001 BK597 BK619 HB hHeld ⊢
     refine take_ (i := 0) (N := some 58) (v := ?_) (a' := ?_) #[true, false, false, false, false] rfl rfl (by kernel_rfl) (fun _ _ _ h => h) (Or.inl ⟨by rfl, ?_⟩) hHeld ?_ ?_
     rotate_left
     ·rintro w' ⟨s0, s1, s2, s3⟩
      go_simp
      with_reducible rfl
     rotate_left
     ·simp only [Act.put, List.setIfInBounds_toArray, List.set_cons_zero, List.set_cons_succ, i64_w, i32_w]
      rfl
     refine take_ (i := 1) (N := some 59) (v := ?_) (a' := ?_) #[true, true, false, false, false] rfl rfl (by kernel_rfl) (fun _ _ _ h => h) (Or.inl ⟨by rfl, ?_⟩) hHeld ?_ ?_
     rotate_left
     ·rintro w' ⟨s0, s1, s2, s3⟩
      go_simp
      with_reducible rfl
     rotate_left
     ·simp only [Act.put, List.setIfInBounds_toArray, List.set_cons_zero, List.set_cons_succ, i64_w, i32_w]
      rfl
     refine one_ (i := 2) (N := some 60) #[true, true, true, false, false] rfl rfl (by kernel_rfl) (by decide) (fun K hK => ?_)
     refine goes_ Try.func18 (by kernel_rfl) rfl #[.agg #[.slice A0_0 l0_0.length c0_0, .slice A0_1 l0_1.length c0_1]] (by rfl) rfl rfl (by (try simp only [List.map_toArray, List.map_cons, List.map_nil]); first | done | rfl | (simp only [List.length_drop, List.length_take]; rfl)) ?_
     with_reducible refine (laws_toMap.calls kj19 _ _ l0_0 _ _ l0_1 t628 t631 _ ?side1 ?side2 ?side3 ?side4 A49.out).mono ?_
     (case side1 => exact zC HR0_0 HB)
     (case side2 => exact HC0_0.out)
     (case side3 => exact zC HR0_1 HB)
     (case side4 => exact HC0_1.out)
     rintro e w59 ⟨v629, v632, rfl, ho0, ho1, hb⟩
     refine ⟨_, rfl, ?_⟩
     replace HO_8 := A0_ (sM (Kd.S_told (Kd.S_told (Kd.S_old (zS_ HO_8) hb) (Kd.R_base ho0)) (Kd.R_base ho1)) (fun _ h_ => h_.1))
     replace HO_11 := A0_ (sM (Kd.S_told (Kd.S_told (Kd.S_old (zS_ HO_11) hb) (Kd.R_base ho0)) (Kd.R_base ho1)) (fun _ h_ => h_.1))
     replace HO_12 := A0_ (sM (Kd.S_told (Kd.S_told (Kd.S_old (zS_ HO_12) hb) (Kd.R_base ho0)) (Kd.R_base ho1)) (fun _ h_ => h_.1))
     have HO630 := A0_ (rL (Kd.R_new' (Kd.R_new' ho0 (rX (zR_ HO_620000))) (rX (zR_ HO_620001))) (bZ (zB_ HB)))
     have HO633 := A0_ (rL (Kd.R_new' (Kd.R_new' ho1 (rX (zR_ HO_620000))) (rX (zR_ HO_620001))) (bZ (zB_ HB)))
     replace HO_620000 := A0_ (rM (rT (rT (rO (zR_ HO_620000) hb) (Kd.R_base ho0)) (Kd.R_base ho1)) (fun _ h_ => h_.1))
     replace HO_620001 := A0_ (rM (rT (rT (rO (zR_ HO_620001) hb) (Kd.R_base ho0)) (Kd.R_base ho1)) (fun _ h_ => h_.1))
     replace BK597 := zK BK597 hb; replace BK619 := zK BK619 hb; replace HB := zB HB hb; (try clear hb); (try clear hb2); (try clear hk); (try clear hi); (try clear ho0); (try clear ho1); obtain ⟨Ao60, co60, eo60⟩ := rS HO630.out
     (first | subst eo60 | (injection eo60 with f1_ f2_ f3_; have f4_ := f1_.symm; have f5_ := f3_.symm; clear f1_ f2_ f3_; subst f4_; subst f5_))
     obtain ⟨Ao61, co61, eo61⟩ := rS HO633.out
     (first | subst eo61 | (injection eo61 with f1_ f2_ f3_; have f4_ := f1_.symm; have f5_ := f3_.symm; clear f1_ f2_ f3_; subst f4_; subst f5_))
     refine hK.out _ _ ⟨(kC BK619.out 0).trans rfl, (kC BK619.out 1).trans rfl, (kC BK597.out 0).trans rfl, (kC BK597.out 1).trans rfl⟩ (fun hHeld => ?_)
     clear hK K
     refine norm_ (a' := ?_) ?_ ?_
     rotate_left
     ·show Act.put _ (some 60) _ = _
      simp only [Act.put, List.setIfInBounds_toArray, List.set_cons_zero, List.set_cons_succ, i64_w, i32_w]
      rfl
     refine one_ (i := 3) (N := some 61) #[true, true, true, true, false] rfl rfl (by kernel_rfl) (by decide) (fun K hK => ?_)
     refine goes_ Try.func21 (by kernel_rfl) rfl #[.agg #[.slice Ao34 t613.length co34, .slice Ao37 t616.length co37], .agg #[.slice Ao60 t628.length co60, .slice Ao61 t631.length co61]] (by rfl) rfl rfl (by (try simp only [List.map_toArray, List.map_cons, List.map_nil]); first | done | rfl | (simp only [List.length_drop, List.length_take]; rfl)) ?_
     with_reducible refine (laws_eqMap.calls kj19 _ _ t613 _ _ t616 _ _ t628 _ _ t631 true _ ?side1 ?side2 ?side3 ?side4 ?side5 ?side6 ?side7 ?side8 A50.out).mono ?_
     (case side1 => exact zD HO_620000)
     (case side2 => exact (rR HO_620000.out).2.1)
     (case side3 => exact zD HO_620001)
     (case side4 => exact (rR HO_620001.out).2.1)
     (case side5 => exact zD HO630)
     (case side6 => exact (rR HO630.out).2.1)
     (case side7 => exact zD HO633)
     (case side8 => exact (rR HO633.out).2.1)
     rintro e w62 ⟨rfl, hb⟩
     refine ⟨_, rfl, ?_⟩
     replace HO_8 := zS HO_8 hb; replace HO_11 := zS HO_11 hb; replace HO_12 := zS HO_12 hb; replace HO_620000 := zR HO_620000 hb; replace HO_620001 := zR HO_620001 hb; replace HO630 := zR HO630 hb; replace HO633 := zR HO633 hb; replace BK597 := zK BK597 hb; replace BK619 := zK BK619 hb; replace HB := zB HB hb; (try clear hb); (try clear hb2); (try clear hk); (try clear hi)
     refine hK.out _ _ ⟨(kC BK619.out 0).trans rfl, (kC BK619.out 1).trans rfl, (kC BK597.out 0).trans rfl, (kC BK597.out 1).trans rfl⟩ (fun hHeld => ?_)
     clear hK K
     refine norm_ (a' := ?_) ?_ ?_
     rotate_left
     ·show Act.put _ (some 61) _ = _
      simp only [Act.put, List.setIfInBounds_toArray, List.set_cons_zero, List.set_cons_succ, i64_w, i32_w]
      rfl
     refine pure_ (i := 4) (N := some 62) (v := ?_) (a' := ?_) #[true, true, true, true, true] rfl rfl (by kernel_rfl) (fun _ _ _ h => h) (Or.inl ⟨by rfl, ?_⟩) ?_ ?_
     rotate_left
     ·intro w'
      go_simp
      with_reducible rfl
     rotate_left
     ·simp only [Act.put, List.setIfInBounds_toArray, List.set_cons_zero, List.set_cons_succ, i64_w, i32_w]
      rfl
     refine done_ (by kernel_rfl) ?_
     go_upto_region 21 with (first | ((with_reducible refine gC (f := 19) rfl ?_); refine zJ (some 65) Try.func19 #[.slice A2 l2.length c2] ?_; (with_reducible refine (laws_toIntSS.calls kj19 _ _ l2 t635 _ ?side1 ?side2 A52.out).mono ?_); (case side1 => exact zC HR2 HB); (case side2 => exact HC2.out); rintro e w63 ⟨v636, rfl, ho0, hb⟩; refine ⟨_, rfl, ?_⟩; have HO637 := A0_ (Kd.S_lower (Kd.S_new' (Kd.S_new' (Kd.S_new' (Kd.S_new' (Kd.S_new' (Kd.S_new' (Kd.S_new' ho0 (Kd.S_lt (zS_ HO_8))) (Kd.S_lt (zS_ HO_11))) (Kd.S_lt (zS_ HO_12))) (rX (zR_ HO_620000))) (rX (zR_ HO_620001))) (rX (zR_ HO630))) (rX (zR_ HO633))) (bZ (zB_ HB))); replace HO_8 := A0_ (Kd.S_elder' (zS_ HO_8) (Kd.S_base ho0) hb); replace HO_11 := A0_ (Kd.S_elder' (zS_ HO_11) (Kd.S_base ho0) hb); replace HO_12 := A0_ (Kd.S_elder' (zS_ HO_12) (Kd.S_base ho0) hb); replace HO_620000 := zR HO_620000 hb; replace HO_620001 := zR HO_620001 hb; replace HO630 := zR HO630 hb; replace HO633 := zR HO633 hb; replace BK597 := zK BK597 hb; replace BK619 := zK BK619 hb; replace HB := zB HB hb; (try clear hb); (try clear ho0); obtain ⟨Ao64, co64, eo64⟩ := Kd.S_slice HO637.out; subst eo64) | ((with_reducible refine gC (f := 22) rfl ?_); refine zJ (some 66) Try.func22 #[.slice Ao40 t620.length co40, .slice Ao64 t635.length co64] ?_; (with_reducible refine (laws_eqIntSS.calls kj19 _ _ t620 _ _ t635 true _ ?side1 ?side2 ?side3 ?side4 A53.out).mono ?_); (case side1 => exact zDS HO_11); (case side2 => exact (Kd.S_reads' HO_11.out).2.1); (case side3 => exact zDS HO637); (case side4 => exact (Kd.S_reads' HO637.out).2.1); rintro e w' ⟨rfl, ⟨nd, rfl⟩⟩; refine ⟨_, rfl, ?_⟩; have hnb65 := NB619_597.out; have hnc65 := NB597_619.out; have hcz66_0 := zc0 BK619; have hcz66_1 := zc1 BK619; have hfz66_0 := kF BK619.out 0; have hfz66_1 := kF BK619.out 1) | ((with_reducible refine gC (f := 25) rfl ?_); refine zJ (some 70) Try.func25 #[.agg #[.slice Ao34 t613.length co34, .slice Ao37 t616.length co37], .int .i64 1] ?_; (with_reducible refine (laws_markMap.calls kj19 (fun k_ => some k_ = (.slice Ao34 t613.length co34 : Value).ownBlock) (.slice Ao34 t613.length co34) t613 (fun k_ => some k_ = (.slice Ao37 t616.length co37 : Value).ownBlock) (.slice Ao37 t616.length co37) t616 1 t639 t640 t641 w _ ?side1 ?side2 ?side3 ?side4 ?side5 A55.out).mono ?_); (case side1 => repeat (first | (with_reducible first | exact HB.out | apply bA | apply bN | apply bD | refine bS ?_ GE597.out | refine bS ?_ GE619.out) | exact HB.out)); (case side2 => exact Kd.R_tight rfl HO_620000.out); (case side3 => exact fun k_ e_ => (HO_620000.out.1 k_ e_.symm).1.1); (case side4 => exact Kd.R_tight rfl HO_620001.out); (case side5 => exact fun k_ e_ => (HO_620001.out.1 k_ e_.symm).1.1); rintro e w67 ⟨rfl, hy0, hy1, hb, hkp⟩; refine ⟨_, rfl, ?_⟩; replace HO_8 := A0_ (sM (ok' := fun k_ => some k_ ≠ (.slice Ao40 t620.length co40 : Value).ownBlock ∧ some k_ ≠ (v624 : Value).ownBlock ∧ some k_ ≠ (.slice Ao34 t613.length co34 : Value).ownBlock ∧ some k_ ≠ (.slice Ao37 t616.length co37 : Value).ownBlock ∧ some k_ ≠ (.slice Ao60 t628.length co60 : Value).ownBlock ∧ some k_ ≠ (.slice Ao61 t631.length co61 : Value).ownBlock ∧ some k_ ≠ (.slice Ao64 t635.length co64 : Value).ownBlock ∧ k_ < M1_ ∧ k_ < M2_) (Kd.S_keptB (HO_8.out) hkp (fun k_ hk_ hs_ => Or.elim hs_ (fun e_ => (hk_.1.1.1.2.2.1) e_) (fun e_ => (hk_.1.1.1.2.2.2.1) e_))) (fun k_ hk_ => ⟨hk_.1.1.1.1.1, hk_.1.1.1.1.2.1, hk_.1.1.1.1.2.2.1, hk_.1.1.1.1.2.2.2.1, hk_.1.1.1.2, hk_.1.1.2, hk_.1.2, hk_.1.1.1.1.2.2.2.2⟩)); replace HO_11 := A0_ (sM (ok' := fun k_ => some k_ ≠ (v610 : Value).ownBlock ∧ some k_ ≠ (v624 : Value).ownBlock ∧ some k_ ≠ (.slice Ao34 t613.length co34 : Value).ownBlock ∧ some k_ ≠ (.slice Ao37 t616.length co37 : Value).ownBlock ∧ some k_ ≠ (.slice Ao60 t628.length co60 : Value).ownBlock ∧ some k_ ≠ (.slice Ao61 t631.length co61 : Value).ownBlock ∧ some k_ ≠ (.slice Ao64 t635.length co64 : Value).ownBlock ∧ M1_ ≤ k_ ∧ k_ < M2_) (Kd.S_keptB (HO_11.out) hkp (fun k_ hk_ hs_ => Or.elim hs_ (fun e_ => (hk_.1.1.1.2.2.1) e_) (fun e_ => (hk_.1.1.1.2.2.2.1) e_))) (fun k_ hk_ => ⟨hk_.1.1.1.1.1, hk_.1.1.1.1.2.1, hk_.1.1.1.1.2.2.1, hk_.1.1.1.1.2.2.2.1, hk_.1.1.1.2, hk_.1.1.2, hk_.1.2, hk_.1.1.1.1.2.2.2.2⟩)); replace HO_12 := A0_ (sM (ok' := fun k_ => some k_ ≠ (v610 : Value).ownBlock ∧ some k_ ≠ (.slice Ao40 t620.length co40 : Value).ownBlock ∧ some k_ ≠ (.slice Ao34 t613.length co34 : Value).ownBlock ∧ some k_ ≠ (.slice Ao37 t616.length co37 : Value).ownBlock ∧ some k_ ≠ (.slice Ao60 t628.length co60 : Value).ownBlock ∧ some k_ ≠ (.slice Ao61 t631.length co61 : Value).ownBlock ∧ some k_ ≠ (.slice Ao64 t635.length co64 : Value).ownBlock ∧ M2_ ≤ k_) (Kd.S_keptB (HO_12.out) hkp (fun k_ hk_ hs_ => Or.elim hs_ (fun e_ => (hk_.1.1.1.2.2.1) e_) (fun e_ => (hk_.1.1.1.2.2.2.1) e_))) (fun k_ hk_ => ⟨hk_.1.1.1.1.1, hk_.1.1.1.1.2.1, hk_.1.1.1.1.2.2.1, hk_.1.1.1.1.2.2.2.1, hk_.1.1.1.2, hk_.1.1.2, hk_.1.2, hk_.1.1.1.1.2.2.2.2⟩)); replace BK597 := A0_ (blk_kept (zK_ BK597) hkp (fun hs_ => Or.elim hs_ (fun e_ => (fun e_ => (Kd.R_ne HO_620000.out BK597.out (by decide)) e_) e_) (fun e_ => (fun e_ => (Kd.R_ne HO_620001.out BK597.out (by decide)) e_) e_))); replace BK619 := A0_ (blk_kept (zK_ BK619) hkp (fun hs_ => Or.elim hs_ (fun e_ => (fun e_ => (Kd.R_ne HO_620000.out BK619.out (by decide)) e_) e_) (fun e_ => (fun e_ => (Kd.R_ne HO_620001.out BK619.out (by decide)) e_) e_))); replace HO_620000 := A0_ (Kd.R_reok rfl hy0 (fun k_ e_ => HO_620000.out.1 k_ e_)); replace HO_620001 := A0_ (Kd.R_reok rfl hy1 (fun k_ e_ => HO_620001.out.1 k_ e_)); replace HO630 := A0_ (rM (ok' := fun k_ => some k_ ≠ (.slice Ao34 t613.length co34 : Value).ownBlock ∧ some k_ ≠ (.slice Ao37 t616.length co37 : Value).ownBlock ∧ some k_ ≠ (.slice Ao61 t631.length co61 : Value).ownBlock) (Kd.R_keptB (HO630.out) hkp (fun k_ hk_ hs_ => Or.elim hs_ (fun e_ => (hk_.1.2) e_) (fun e_ => (hk_.2) e_))) (fun k_ hk_ => ⟨hk_.1.1.2, hk_.1.2, hk_.1.1.1⟩)); replace HO633 := A0_ (rM (ok' := fun k_ => some k_ ≠ (.slice Ao34 t613.length co34 : Value).ownBlock ∧ some k_ ≠ (.slice Ao37 t616.length co37 : Value).ownBlock ∧ some k_ ≠ (.slice Ao60 t628.length co60 : Value).ownBlock) (Kd.R_keptB (HO633.out) hkp (fun k_ hk_ hs_ => Or.elim hs_ (fun e_ => (hk_.1.2) e_) (fun e_ => (hk_.2) e_))) (fun k_ hk_ => ⟨hk_.1.1.2, hk_.1.2, hk_.1.1.1⟩)); replace HO637 := A0_ (sM (ok' := fun k_ => some k_ ≠ (v610 : Value).ownBlock ∧ some k_ ≠ (.slice Ao40 t620.length co40 : Value).ownBlock ∧ some k_ ≠ (v624 : Value).ownBlock ∧ some k_ ≠ (.slice Ao34 t613.length co34 : Value).ownBlock ∧ some k_ ≠ (.slice Ao37 t616.length co37 : Value).ownBlock ∧ some k_ ≠ (.slice Ao60 t628.length co60 : Value).ownBlock ∧ some k_ ≠ (.slice Ao61 t631.length co61 : Value).ownBlock) (Kd.S_keptB (HO637.out) hkp (fun k_ hk_ hs_ => Or.elim hs_ (fun e_ => (hk_.1.1.1.2) e_) (fun e_ => (hk_.1.1.2) e_))) (fun k_ hk_ => ⟨hk_.1.1.1.1.1.1.1.2, hk_.1.1.1.1.1.1.2, hk_.1.1.1.1.1.2, hk_.1.1.1.1.2, hk_.1.1.1.2, hk_.1.1.2, hk_.1.2⟩)); replace HB := A0_ (hb); (try clear hb); (try clear hkp); (try clear hy0); (try clear hy1)) | ((with_reducible refine gC (f := 26) rfl ?_); refine zJ (some 73) Try.func26 #[.slice Ao40 t620.length co40, .int .i64 t639] ?_; have hS_ := Kd.S_bound HO_11.out; refine (laws_markIntSS.calls kj19 _ _ t620 t639 t642 zs w _ (zB_ HB) (by (with_reducible repeat apply sA); exact hS_) A56.out).mono ?_; rintro e w68 ⟨rfl, hy_, hb, hkp⟩; refine ⟨_, rfl, ?_⟩; replace HO_8 := A0_ (sM (Kd.S_keptB (zS_ HO_8) hkp (fun k_ hk_ hs_ => by exact absurd hk_.2.2.2.2.2.2.2.1 (Nat.not_lt.2 hs_.1.2.2.2.2.2.2.2.1))) (fun _ hk => hk.1)); replace HO_11 := A0_ hy_; replace HO_12 := A0_ (sM (Kd.S_keptB (zS_ HO_12) hkp (fun k_ hk_ hs_ => by exact absurd hs_.1.2.2.2.2.2.2.2.2 (Nat.not_lt.2 hk_.2.2.2.2.2.2.2))) (fun _ hk => hk.1)); replace HO_620000 := A0_ (Kd.R_reok rfl (Kd.R_keptB (Kd.R_tight rfl (zR_ HO_620000)) hkp (fun k_ hk_ hs_ => (by have h_ := hs_.1; repeat (first | exact h_.1 hk_ | exact h_ hk_ | replace h_ := h_.2)))) (fun k_ e_ => HO_620000.out.1 k_ e_)); replace HO_620001 := A0_ (Kd.R_reok rfl (Kd.R_keptB (Kd.R_tight rfl (zR_ HO_620001)) hkp (fun k_ hk_ hs_ => (by have h_ := hs_.1; repeat (first | exact h_.1 hk_ | exact h_ hk_ | replace h_ := h_.2)))) (fun k_ e_ => HO_620001.out.1 k_ e_)); replace HO630 := A0_ (Kd.R_reok rfl (Kd.R_keptB (Kd.R_tight rfl (zR_ HO630)) hkp (fun k_ hk_ hs_ => (by have h_ := hs_.1; repeat (first | exact h_.1 hk_ | exact h_ hk_ | replace h_ := h_.2)))) (fun k_ e_ => HO630.out.1 k_ e_)); replace HO633 := A0_ (Kd.R_reok rfl (Kd.R_keptB (Kd.R_tight rfl (zR_ HO633)) hkp (fun k_ hk_ hs_ => (by have h_ := hs_.1; repeat (first | exact h_.1 hk_ | exact h_ hk_ | replace h_ := h_.2)))) (fun k_ e_ => HO633.out.1 k_ e_)); replace HO637 := A0_ True.intro; replace BK597 := A0_ (blk_kept (zK_ BK597) hkp (fun hs_ => by obtain ⟨_, _, _, q_, hq_, cs_, hc_⟩ := hs_; have e_ := BK597.out.symm.trans hc_; injection e_ with e_; injection e_ with _ e2_ _; subst e2_; exact absurd hq_ (by decide))); replace BK619 := A0_ (blk_kept (zK_ BK619) hkp (fun hs_ => by obtain ⟨_, _, _, q_, hq_, cs_, hc_⟩ := hs_; have e_ := BK619.out.symm.trans hc_; injection e_ with e_; injection e_ with _ e2_ _; subst e2_; exact absurd hq_ (by decide))); replace HB := A0_ (hb); (try clear hb); (try clear hkp); (try clear hS_); (try clear hy_)))
     (try simp only [Act.put, List.setIfInBounds_toArray, List.set_cons_zero, List.set_cons_succ])
     go_cut [86] (fun v86 wc => ∃ (kq : Nat) (x86_56 : Bool) (M2_ : Nat), v86 = .bool x86_56 ∧ Aside0 (laws_FnExactCoverTree.j1 kq a1 l2 t609 t612 t623 x86_56 l0_0 l0_1 = some r) ∧ Aside0 (kq ≤ kj19) ∧ Aside0 (Kd.S (Kd.slice 3 (Kd.int .i64)) 22 wc w.heap.size (fun k_ => some k_ ≠ (v624 : Value).ownBlock ∧ some k_ ≠ ((.slice Ao34 t613.length co34) : Value).ownBlock ∧ some k_ ≠ ((.slice Ao37 t616.length co37) : Value).ownBlock ∧ k_ < M2_) v610 t609) ∧ Aside0 (Kd.S (Kd.slice 3 (Kd.int .i64)) 22 wc w.heap.size (fun k_ => some k_ ≠ (v610 : Value).ownBlock ∧ some k_ ≠ ((.slice Ao34 t613.length co34) : Value).ownBlock ∧ some k_ ≠ ((.slice Ao37 t616.length co37) : Value).ownBlock ∧ M2_ ≤ k_) v624 t623) ∧ Aside0 (Kd.R (Kd.int .i64) 3 wc w.heap.size (fun k_ => some k_ ≠ ((.slice Ao37 t616.length co37) : Value).ownBlock) (.slice Ao34 t613.length co34) t640) ∧ Aside0 (Kd.R (Kd.int .i64) 3 wc w.heap.size (fun k_ => some k_ ≠ ((.slice Ao34 t613.length co34) : Value).ownBlock) (.slice Ao37 t616.length co37) t641) ∧ Aside0 (wc.heap[gb597]? = some (.cells #[(.slice A0_0 l0_0.length c0_0), (.slice A0_1 l0_1.length c0_1)] 24 (0, 0))) ∧ Aside0 (wc.heap[gb619]? = some (.cells #[(.slice Ao34 t613.length co34), (.slice Ao37 t616.length co37)] 29 (0, 0))) ∧ Aside0 (Below w.heap.size w wc))
     case first =>
      have H := HC57.out; clear HC57
      by_cases c69 : t642 < 0
      ·rw [if_pos c69] at H
       have c69b0 := dT c69; clear c69
       (first | rw [c69b0] | (simp only [i64_w, i32_w]; rw [c69b0]) | skip)
       have H' := A0_ H; clear H
       go_wp2
       go_meet
       case rel => exact ⟨_, (true), M2_, zt, H', ⟨by have := HJ19.out; first | omega | exact Nat.le_refl _⟩, ⟨zmS HO_8 (fun _ hk => ⟨hk.2.1, hk.2.2.1, hk.2.2.2.1, hk.2.2.2.2.2.2.2.2⟩)⟩, ⟨zmS HO_12 (fun _ hk => ⟨hk.1, hk.2.2.1, hk.2.2.2.1, hk.2.2.2.2.2.2.2⟩)⟩, ⟨zmR HO_620000 (fun _ hk => hk.1.1)⟩, ⟨zmR HO_620001 (fun _ hk => hk.1.1)⟩, ⟨zK_ BK597⟩, ⟨zK_ BK619⟩, ⟨zB_ HB⟩⟩
      rw [if_neg c69] at H; have c69b0 := dF c69; clear c69
      (first | rw [c69b0] | (simp only [i64_w, i32_w]; rw [c69b0]) | skip)
      obtain ⟨t643, A70, H⟩ := zbind H
      by_cases c71 : t643 = true
      ·subst c71
       rw [if_pos rfl] at H; have H' := A0_ H; clear H; obtain ⟨Ao72, co72, eo72⟩ := Kd.S_slice HO_12.out; subst eo72; obtain ⟨Ao73, co73, eo73⟩ := Kd.S_slice HO_8.out; subst eo73
       go_wp2_with (first | (go_at_call 22; (with_reducible refine (laws_eqIntSS.calls kj19 _ _ t623 _ _ t609 true _ ?side1 ?side2 ?side3 ?side4 A70.out).mono ?_); (case side1 => exact zDS HO_12); (case side2 => exact (Kd.S_reads' HO_12.out).2.1); (case side3 => exact zDS HO_8); (case side4 => exact (Kd.S_reads' HO_8.out).2.1); rintro e w' ⟨rfl, ⟨nd, rfl⟩⟩))
       go_meet
       case rel => exact ⟨_, ((t626 != t612)), M2_, zt, H', ⟨by have := HJ19.out; first | omega | exact Nat.le_refl _⟩, ⟨zmS HO_8 (fun _ hk => ⟨hk.2.1, hk.2.2.1, hk.2.2.2.1, hk.2.2.2.2.2.2.2.2⟩)⟩, ⟨zmS HO_12 (fun _ hk => ⟨hk.1, hk.2.2.1, hk.2.2.2.1, hk.2.2.2.2.2.2.2⟩)⟩, ⟨zmR HO_620000 (fun _ hk => hk.1.1)⟩, ⟨zmR HO_620001 (fun _ hk => hk.1.1)⟩, ⟨zK_ BK597⟩, ⟨zK_ BK619⟩, ⟨zB_ HB⟩⟩
      replace c71 := Bool.eq_false_iff.mpr c71; subst c71
      rw [if_neg (show ¬ (false = true) by decide)] at H
      have H' := A0_ H; clear H; obtain ⟨Ao74, co74, eo74⟩ := Kd.S_slice HO_12.out; subst eo74; obtain ⟨Ao75, co75, eo75⟩ := Kd.S_slice HO_8.out; subst eo75
      go_wp2_with (first | (go_at_call 22; (with_reducible refine (laws_eqIntSS.calls kj19 _ _ t623 _ _ t609 false _ ?side1 ?side2 ?side3 ?side4 A70.out).mono ?_); (case side1 => exact zDS HO_12); (case side2 => exact (Kd.S_reads' HO_12.out).2.1); (case side3 => exact zDS HO_8); (case side4 => exact (Kd.S_reads' HO_8.out).2.1); rintro e w' ⟨rfl, ⟨nd, rfl⟩⟩))
      go_meet
      case rel => exact ⟨_, (true), M2_, zt, H', ⟨by have := HJ19.out; first | omega | exact Nat.le_refl _⟩, ⟨zmS HO_8 (fun _ hk => ⟨hk.2.1, hk.2.2.1, hk.2.2.2.1, hk.2.2.2.2.2.2.2.2⟩)⟩, ⟨zmS HO_12 (fun _ hk => ⟨hk.1, hk.2.2.1, hk.2.2.2.1, hk.2.2.2.2.2.2.2⟩)⟩, ⟨zmR HO_620000 (fun _ hk => hk.1.1)⟩, ⟨zmR HO_620001 (fun _ hk => hk.1.1)⟩, ⟨zK_ BK597⟩, ⟨zK_ BK619⟩, ⟨zB_ HB⟩⟩
     case rest =>
      clear HC57; (try clear c1); (try clear c2); (try clear p2); (try clear c3); (try clear c4); (try clear c5); (try clear c5b0); (try clear c6); (try clear c7); (try clear c10); (try clear c10b0); (try clear c13); (try clear c15); (try clear c16); (try clear c18); (try clear c19); (try clear c21); (try clear c22); (try clear c25); (try clear c26); (try clear c35); (try clear c43); (try clear c48); (try clear c49); (try clear c50); (try clear c51); (try clear c54); (try clear c65); (try clear c69); (try clear c69b0); (try clear c71); (try clear hcz12_0); (try clear hcz12_1); (try clear hcz22_0); (try clear hcz22_1); (try clear hcz24_0); (try clear hcz24_1); (try clear hcz31_0); (try clear hcz31_1); (try clear hcz36_0); (try clear hcz36_1); (try clear hcz39_0); (try clear hcz39_1); (try clear hcz66_0); (try clear hcz66_1); (try clear hcz7_0); (try clear hcz7_1); (try clear hfz12_0); (try clear hfz12_1); (try clear hfz22_0); (try clear hfz22_1); (try clear hfz24_0); (try clear hfz24_1); (try clear hfz31_0); (try clear hfz31_1); (try clear hfz36_0); (try clear hfz36_1); (try clear hfz39_0); (try clear hfz39_1); (try clear hfz66_0); (try clear hfz66_1); (try clear hfz7_0); (try clear hfz7_1); (try clear p2); obtain ⟨kq, x86_56, M2_, rfl, HA, HJ56, HO_8, HO_12, HO_620000, HO_620001, BK597, BK619, HB⟩ := hcut; have hl620000_56 := (rR HO_620000.out).1; rw [hl620000_56] at HO_620000; (try simp only [hl620000_56]); (try simp only [hl620000_56] at BK597); (try simp only [hl620000_56] at BK619); (try simp only [hl620000_56] at HO_8); (try simp only [hl620000_56] at HO_12); (try simp only [hl620000_56] at HO_620001); have hl620001_56 := (rR HO_620001.out).1; rw [hl620001_56] at HO_620001; (try simp only [hl620001_56]); (try simp only [hl620001_56] at BK597); (try simp only [hl620001_56] at BK619); (try simp only [hl620001_56] at HO_8); (try simp only [hl620001_56] at HO_12); (try simp only [hl620001_56] at HO_620000)
      cases kq with
      | zero => exact absurd HA.out (by simp [laws_FnExactCoverTree.j1])
      | succ kj56 =>
       have H := HA.out; clear HA; simp only [laws_FnExactCoverTree.j1] at H
       by_cases c76 : x86_56 = true
       ·subst c76
        rw [if_pos rfl] at H; obtain rfl := sI H
        go_wp2
        go_ret
        exact ⟨by first | rfl | (simp [*] <;> rfl), zB_ HB⟩
       replace c76 := Bool.eq_false_iff.mpr c76; subst c76
       rw [if_neg (show ¬ (false = true) by decide)] at H
       replace H := Option.bind_eq_some_iff.mp H; obtain ⟨⟨t644, ys⟩, A770, H⟩ := H
       replace H : ((laws_heldIntSS.f kj56 ys 1).bind fun t645 => (if t645 < 0 then (some false) else (if t645 = t644 then ((laws_toMap.f kj56 l0_0 l0_1).bind fun bt646 => ((laws_toIntSS.f kj56 l2).bind fun t652 => ((impl_CoverTree.f kj56 bt646.1 bt646.2 a1 t652).bind fun bt655 => ((laws_eqIntSS.f kj56 bt655.1 t609).bind fun t659 => (if t659 = true then (laws_FnExactCoverTree.j2 kj56 ys t644 (bt655.2 != t612)) else (laws_FnExactCoverTree.j2 kj56 ys t644 true)))))) else (some false)))) = some r := H
       have A77 := A0_ A770; have HLY := A0_ (laws_markIntSS.go_len _ _ _ _ A770 : ys.length = t623.length)
       clear A770; obtain ⟨t645, A78, H⟩ := zbind H
       by_cases c79 : t645 < 0
       ·rw [if_pos c79] at H
        have c79b0 := dT c79; clear c79; obtain rfl := sI H; obtain ⟨Ao80, co80, eo80⟩ := Kd.S_slice HO_12.out; subst eo80
        go_wp2_with (first | ((with_reducible refine gC (f := 26) rfl ?_); refine zJ (some 89) Try.func26 #[.slice Ao80 t623.length co80, .int .i64 1] ?_; have hS_ := Kd.S_bound HO_12.out; refine (laws_markIntSS.calls kj56 _ _ t623 1 t644 ys w _ (zB_ HB) (by (with_reducible repeat apply sA); exact hS_) A77.out).mono ?_; rintro e w81 ⟨rfl, hy_, hb, hkp⟩; refine ⟨_, rfl, ?_⟩; replace HO_8 := A0_ (sM (Kd.S_keptB (zS_ HO_8) hkp (fun k_ hk_ hs_ => by exact absurd hk_.2.2.2 (Nat.not_lt.2 hs_.1.2.2.2))) (fun _ hk => hk.1)); replace HO_12 := A0_ hy_; replace HO_620000 := A0_ (Kd.R_reok rfl (Kd.R_keptB (Kd.R_tight rfl (zR_ HO_620000)) hkp (fun k_ hk_ hs_ => (by have h_ := hs_.1; repeat (first | exact h_.1 hk_ | exact h_ hk_ | replace h_ := h_.2)))) (fun k_ e_ => HO_620000.out.1 k_ e_)); replace HO_620001 := A0_ (Kd.R_reok rfl (Kd.R_keptB (Kd.R_tight rfl (zR_ HO_620001)) hkp (fun k_ hk_ hs_ => (by have h_ := hs_.1; repeat (first | exact h_.1 hk_ | exact h_ hk_ | replace h_ := h_.2)))) (fun k_ e_ => HO_620001.out.1 k_ e_)); replace BK597 := A0_ (blk_kept (zK_ BK597) hkp (fun hs_ => by obtain ⟨_, _, _, q_, hq_, cs_, hc_⟩ := hs_; have e_ := BK597.out.symm.trans hc_; injection e_ with e_; injection e_ with _ e2_ _; subst e2_; exact absurd hq_ (by decide))); replace BK619 := A0_ (blk_kept (zK_ BK619) hkp (fun hs_ => by obtain ⟨_, _, _, q_, hq_, cs_, hc_⟩ := hs_; have e_ := BK619.out.symm.trans hc_; injection e_ with e_; injection e_ with _ e2_ _; subst e2_; exact absurd hq_ (by decide))); replace HB := A0_ (hb); (try clear hb); (try clear hkp); (try clear hS_); (try clear hy_)) | ((with_reducible refine gC (f := 27) rfl ?_); refine zJ (some 92) Try.func27 #[.slice Ao80 t623.length co80, .int .i64 1] ?_; (with_reducible refine (laws_heldIntSS.calls2 HLY.out kj56 _ _ ys 1 t645 _ ?side1 ?side2 A78.out).mono ?_); (case side1 => exact zDS HO_12); (case side2 => exact (Kd.S_reads' HO_12.out).2.1); rintro e w' ⟨rfl, ⟨nd, rfl⟩⟩; refine ⟨_, rfl, ?_⟩))
        go_ret
        exact ⟨by first | rfl | (simp [*] <;> rfl), zB_ HB⟩
       rw [if_neg c79] at H; have c79b0 := dF c79; clear c79
       by_cases c82 : t645 = t644
       ·rw [if_pos c82] at H
        have c82b0 : (t645 == t644) = true := beq_iff_eq.mpr c82
        have c82b1 : (t645 != t644) = false := bne_eq_false_iff_eq.mpr c82
        clear c82; obtain ⟨⟨t646, t649⟩, A83, H⟩ := zbind H; dsimp only at H; obtain ⟨t652, A84, H⟩ := zbind H; obtain ⟨⟨t655, t658⟩, A85, H⟩ := zbind H; dsimp only at H; have HC86 := A0_ H; clear H; obtain ⟨Ao87, co87, eo87⟩ := Kd.S_slice HO_12.out; subst eo87
        go_upto_region 32 with (first | ((with_reducible refine gC (f := 26) rfl ?_); refine zJ (some 89) Try.func26 #[.slice Ao87 t623.length co87, .int .i64 1] ?_; have hS_ := Kd.S_bound HO_12.out; refine (laws_markIntSS.calls kj56 _ _ t623 1 t644 ys w _ (zB_ HB) (by (with_reducible repeat apply sA); exact hS_) A77.out).mono ?_; rintro e w88 ⟨rfl, hy_, hb, hkp⟩; refine ⟨_, rfl, ?_⟩; replace HO_8 := A0_ (sM (Kd.S_keptB (zS_ HO_8) hkp (fun k_ hk_ hs_ => by exact absurd hk_.2.2.2 (Nat.not_lt.2 hs_.1.2.2.2))) (fun _ hk => hk.1)); replace HO_12 := A0_ hy_; replace HO_620000 := A0_ (Kd.R_reok rfl (Kd.R_keptB (Kd.R_tight rfl (zR_ HO_620000)) hkp (fun k_ hk_ hs_ => (by have h_ := hs_.1; repeat (first | exact h_.1 hk_ | exact h_ hk_ | replace h_ := h_.2)))) (fun k_ e_ => HO_620000.out.1 k_ e_)); replace HO_620001 := A0_ (Kd.R_reok rfl (Kd.R_keptB (Kd.R_tight rfl (zR_ HO_620001)) hkp (fun k_ hk_ hs_ => (by have h_ := hs_.1; repeat (first | exact h_.1 hk_ | exact h_ hk_ | replace h_ := h_.2)))) (fun k_ e_ => HO_620001.out.1 k_ e_)); replace BK597 := A0_ (blk_kept (zK_ BK597) hkp (fun hs_ => by obtain ⟨_, _, _, q_, hq_, cs_, hc_⟩ := hs_; have e_ := BK597.out.symm.trans hc_; injection e_ with e_; injection e_ with _ e2_ _; subst e2_; exact absurd hq_ (by decide))); replace BK619 := A0_ (blk_kept (zK_ BK619) hkp (fun hs_ => by obtain ⟨_, _, _, q_, hq_, cs_, hc_⟩ := hs_; have e_ := BK619.out.symm.trans hc_; injection e_ with e_; injection e_ with _ e2_ _; subst e2_; exact absurd hq_ (by decide))); replace HB := A0_ (hb); (try clear hb); (try clear hkp); (try clear hS_); (try clear hy_)) | ((with_reducible refine gC (f := 27) rfl ?_); refine zJ (some 92) Try.func27 #[.slice Ao87 t623.length co87, .int .i64 1] ?_; (with_reducible refine (laws_heldIntSS.calls2 HLY.out kj56 _ _ ys 1 t645 _ ?side1 ?side2 A78.out).mono ?_); (case side1 => exact zDS HO_12); (case side2 => exact (Kd.S_reads' HO_12.out).2.1); rintro e w' ⟨rfl, ⟨nd, rfl⟩⟩; refine ⟨_, rfl, ?_⟩; have hnb89 := NB597_619.out; have hnc89 := NB619_597.out; have hcz90_0 := zc0 BK597; have hcz90_1 := zc1 BK597; have hfz90_0 := kF BK597.out 0; have hfz90_1 := kF BK597.out 1) | ((with_reducible refine gC (f := 18) rfl ?_); refine zJ (some 100) Try.func18 #[.agg #[.slice A0_0 l0_0.length c0_0, .slice A0_1 l0_1.length c0_1]] ?_; (with_reducible refine (laws_toMap.calls kj56 _ _ l0_0 _ _ l0_1 t646 t649 _ ?side1 ?side2 ?side3 ?side4 A83.out).mono ?_); (case side1 => repeat (first | exact (cB HR0_0.out (zB_ HB)) | (with_reducible refine cA ?_ _))); (case side2 => exact HC0_0.out); (case side3 => repeat (first | exact (cB HR0_1.out (zB_ HB)) | (with_reducible refine cA ?_ _))); (case side4 => exact HC0_1.out); rintro e w91 ⟨v647, v650, rfl, ho0, ho1, hb⟩; refine ⟨_, rfl, ?_⟩; replace HO_8 := A0_ (sM (Kd.S_told (Kd.S_told (Kd.S_old (zS_ HO_8) hb) (Kd.R_base ho0)) (Kd.R_base ho1)) (fun _ h_ => h_.1)); replace HO_12 := A0_ (sM (Kd.S_told (Kd.S_told (Kd.S_old (zS_ HO_12) hb) (Kd.R_base ho0)) (Kd.R_base ho1)) (fun _ h_ => h_.1)); have HO648 := A0_ (rL (Kd.R_new' (Kd.R_new' ho0 (rX (zR_ HO_620000))) (rX (zR_ HO_620001))) (bZ (zB_ HB))); have HO651 := A0_ (rL (Kd.R_new' (Kd.R_new' ho1 (rX (zR_ HO_620000))) (rX (zR_ HO_620001))) (bZ (zB_ HB))); replace HO_620000 := A0_ (rM (rT (rT (rO (zR_ HO_620000) hb) (Kd.R_base ho0)) (Kd.R_base ho1)) (fun _ h_ => h_.1)); replace HO_620001 := A0_ (rM (rT (rT (rO (zR_ HO_620001) hb) (Kd.R_base ho0)) (Kd.R_base ho1)) (fun _ h_ => h_.1)); replace BK597 := zK BK597 hb; replace BK619 := zK BK619 hb; replace HB := zB HB hb; (try clear hb); (try clear ho0); (try clear ho1)) | ((with_reducible refine gC (f := 19) rfl ?_); refine zJ (some 103) Try.func19 #[.slice A2 l2.length c2] ?_; (with_reducible refine (laws_toIntSS.calls kj56 _ _ l2 t652 _ ?side1 ?side2 A84.out).mono ?_); (case side1 => exact zC HR2 HB); (case side2 => exact HC2.out); rintro e w92 ⟨v653, rfl, ho0, hb⟩; refine ⟨_, rfl, ?_⟩; have HO654 := A0_ (Kd.S_lower (Kd.S_new' (Kd.S_new' (Kd.S_new' (Kd.S_new' (Kd.S_new' (Kd.S_new' ho0 (Kd.S_lt (zS_ HO_8))) (Kd.S_lt (zS_ HO_12))) (rX (zR_ HO_620000))) (rX (zR_ HO_620001))) (rX (zR_ HO648))) (rX (zR_ HO651))) (bZ (zB_ HB))); replace HO_8 := A0_ (Kd.S_elder' (zS_ HO_8) (Kd.S_base ho0) hb); replace HO_12 := A0_ (Kd.S_elder' (zS_ HO_12) (Kd.S_base ho0) hb); replace HO_620000 := zR HO_620000 hb; replace HO_620001 := zR HO_620001 hb; replace HO648 := zR HO648 hb; replace HO651 := zR HO651 hb; replace BK597 := zK BK597 hb; replace BK619 := zK BK619 hb; replace HB := zB HB hb; (try clear hb); (try clear ho0); obtain ⟨Ao93, co93, eo93⟩ := rS HO648.out; subst eo93; obtain ⟨Ao94, co94, eo94⟩ := rS HO651.out; subst eo94; obtain ⟨Ao95, co95, eo95⟩ := Kd.S_slice HO654.out; subst eo95) | ((with_reducible refine gC (f := 50) rfl ?_); refine zJ (some 104) Try.func50 #[.agg #[.slice Ao93 t646.length co93, .slice Ao94 t649.length co94], .int .i64 a1, .slice Ao95 t652.length co95] ?_; (with_reducible refine (impl_CoverTree.calls kj56 _ _ t646 _ _ t649 a1 (fun k_ => ((((((((True ∧ some k_ ≠ (v610 : Value).ownBlock) ∧ some k_ ≠ (.slice Ao87 t623.length co87 : Value).ownBlock) ∧ some k_ ≠ (.slice Ao34 t640.length co34 : Value).ownBlock) ∧ some k_ ≠ (.slice Ao37 t641.length co37 : Value).ownBlock) ∧ some k_ ≠ (.slice Ao93 t646.length co93 : Value).ownBlock) ∧ some k_ ≠ (.slice Ao94 t649.length co94 : Value).ownBlock) ∧ k_ ≠ gb597) ∧ k_ ≠ gb619)) _ _ t652 t655 t658 _ ?side1 ?side2 ?side3 ?side4 ?side5 A85.out).mono ?_); (case side1 => exact zD HO648); (case side2 => exact (rR HO648.out).2.1); (case side3 => exact zD HO651); (case side4 => exact (rR HO651.out).2.1); (case side5 => exact Kd.S_V (Kd.S_types (Kd.S_types (HO654.out) BK597.out (by decide)) BK619.out (by decide))); rintro e w96 ⟨v656, rfl, ho0, hb⟩; refine ⟨_, rfl, ?_⟩; have HO657 := A0_ (Kd.S_lower (Kd.S_new' (Kd.S_new' (Kd.S_new' (Kd.S_new' (Kd.S_new' (Kd.S_new' (Kd.S_new' (sM (ok' := fun k_ => True) ho0 (fun _ hk_ => trivial)) (Kd.S_lt (zS_ HO_8))) (Kd.S_lt (zS_ HO_12))) (rX (zR_ HO_620000))) (rX (zR_ HO_620001))) (rX (zR_ HO648))) (rX (zR_ HO651))) (Kd.S_lt (zS_ HO654))) (bZ (zB_ HB))); replace HO_8 := A0_ (Kd.S_elder' (zS_ HO_8) (Kd.S_base ho0) hb); replace HO_12 := A0_ (Kd.S_elder' (zS_ HO_12) (Kd.S_base ho0) hb); replace HO_620000 := zR HO_620000 hb; replace HO_620001 := zR HO_620001 hb; replace HO648 := zR HO648 hb; replace HO651 := zR HO651 hb; replace HO654 := A0_ (Kd.S_elder' (zS_ HO654) (Kd.S_base ho0) hb); replace BK597 := zK BK597 hb; replace BK619 := zK BK619 hb; replace HB := zB HB hb; (try clear hb); (try clear ho0)))
        (try simp only [Act.put, List.setIfInBounds_toArray, List.set_cons_zero, List.set_cons_succ])
        go_cut [115] (fun v115 wc => ∃ (kq : Nat) (x115_85 : Bool), v115 = .bool x115_85 ∧ Aside0 (laws_FnExactCoverTree.j2 kq ys t644 x115_85 = some r) ∧ Aside0 (kq ≤ kj56) ∧ Aside0 (Kd.S (Kd.slice 3 (Kd.int .i64)) 22 wc w.heap.size (fun _ => True) (.slice Ao87 t623.length co87) ys) ∧ Aside0 (Kd.R (Kd.int .i64) 3 wc w.heap.size (fun k_ => some k_ ≠ ((.slice Ao37 t641.length co37) : Value).ownBlock) (.slice Ao34 t640.length co34) t640) ∧ Aside0 (Kd.R (Kd.int .i64) 3 wc w.heap.size (fun k_ => some k_ ≠ ((.slice Ao34 t640.length co34) : Value).ownBlock) (.slice Ao37 t641.length co37) t641) ∧ Aside0 (wc.heap[gb597]? = some (.cells #[(.slice A0_0 l0_0.length c0_0), (.slice A0_1 l0_1.length c0_1)] 24 (0, 0))) ∧ Aside0 (wc.heap[gb619]? = some (.cells #[(.slice Ao34 t640.length co34), (.slice Ao37 t641.length co37)] 29 (0, 0))) ∧ Aside0 (Below w.heap.size w wc))
        case first =>
         have H := HC86.out; clear HC86; obtain ⟨t659, A97, H⟩ := zbind H
         by_cases c98 : t659 = true
         ·subst c98
          rw [if_pos rfl] at H; have H' := A0_ H; clear H; obtain ⟨Ao99, co99, eo99⟩ := Kd.S_slice HO657.out; subst eo99; obtain ⟨Ao100, co100, eo100⟩ := Kd.S_slice HO_8.out; subst eo100
          go_wp2_with (first | ((with_reducible refine gC (f := 22) rfl ?_); refine zJ (some 109) Try.func22 #[.slice Ao99 t655.length co99, .slice Ao100 t609.length co100] ?_; (with_reducible refine (laws_eqIntSS.calls kj56 _ _ t655 _ _ t609 true _ ?side1 ?side2 ?side3 ?side4 A97.out).mono ?_); (case side1 => exact zDS HO657); (case side2 => exact (Kd.S_reads' HO657.out).2.1); (case side3 => exact zDS HO_8); (case side4 => exact (Kd.S_reads' HO_8.out).2.1); rintro e w' ⟨rfl, ⟨nd, rfl⟩⟩; refine ⟨_, rfl, ?_⟩))
          go_meet
          case rel => exact ⟨_, ((t658 != t612)), zt, H', ⟨by have := HJ19.out; have := HJ56.out; first | omega | exact Nat.le_refl _⟩, ⟨by (try simp only [hl620000_56]); (try simp only [hl620001_56]); (with_reducible repeat (first | apply sA | apply sN | apply sD)); exact sM HO_12.out (fun _ _ => trivial)⟩, ⟨by (try simp only [hl620000_56]); (try simp only [hl620001_56]); (with_reducible repeat (first | apply rA | apply rN | apply rD)); exact rM HO_620000.out (fun _ hk => hk.1.1)⟩, ⟨by (try simp only [hl620000_56]); (try simp only [hl620001_56]); (with_reducible repeat (first | apply rA | apply rN | apply rD)); exact rM HO_620001.out (fun _ hk => hk.1.1)⟩, ⟨by (try simp only [hl620000_56]); (try simp only [hl620001_56]); (with_reducible repeat (first | refine kN ?_ _ | refine kD ?_ | refine kA ?_ _)); exact BK597.out⟩, ⟨by (try simp only [hl620000_56]); (try simp only [hl620001_56]); (with_reducible repeat (first | refine kN ?_ _ | refine kD ?_ | refine kA ?_ _)); exact BK619.out⟩, ⟨zB_ HB⟩⟩
         replace c98 := Bool.eq_false_iff.mpr c98; subst c98
         rw [if_neg (show ¬ (false = true) by decide)] at H
         have H' := A0_ H; clear H; obtain ⟨Ao101, co101, eo101⟩ := Kd.S_slice HO657.out; subst eo101; obtain ⟨Ao102, co102, eo102⟩ := Kd.S_slice HO_8.out; subst eo102
         go_wp2_with (first | ((with_reducible refine gC (f := 22) rfl ?_); refine zJ (some 109) Try.func22 #[.slice Ao101 t655.length co101, .slice Ao102 t609.length co102] ?_; (with_reducible refine (laws_eqIntSS.calls kj56 _ _ t655 _ _ t609 false _ ?side1 ?side2 ?side3 ?side4 A97.out).mono ?_); (case side1 => exact zDS HO657); (case side2 => exact (Kd.S_reads' HO657.out).2.1); (case side3 => exact zDS HO_8); (case side4 => exact (Kd.S_reads' HO_8.out).2.1); rintro e w' ⟨rfl, ⟨nd, rfl⟩⟩; refine ⟨_, rfl, ?_⟩))
         go_meet
         case rel => exact ⟨_, (true), zt, H', ⟨by have := HJ19.out; have := HJ56.out; first | omega | exact Nat.le_refl _⟩, ⟨by (try simp only [hl620000_56]); (try simp only [hl620001_56]); (with_reducible repeat (first | apply sA | apply sN | apply sD)); exact sM HO_12.out (fun _ _ => trivial)⟩, ⟨by (try simp only [hl620000_56]); (try simp only [hl620001_56]); (with_reducible repeat (first | apply rA | apply rN | apply rD)); exact rM HO_620000.out (fun _ hk => hk.1.1)⟩, ⟨by (try simp only [hl620000_56]); (try simp only [hl620001_56]); (with_reducible repeat (first | apply rA | apply rN | apply rD)); exact rM HO_620001.out (fun _ hk => hk.1.1)⟩, ⟨by (try simp only [hl620000_56]); (try simp only [hl620001_56]); (with_reducible repeat (first | refine kN ?_ _ | refine kD ?_ | refine kA ?_ _)); exact BK597.out⟩, ⟨by (try simp only [hl620000_56]); (try simp only [hl620001_56]); (with_reducible repeat (first | refine kN ?_ _ | refine kD ?_ | refine kA ?_ _)); exact BK619.out⟩, ⟨zB_ HB⟩⟩
        case rest =>
         clear HC86; (try clear c1); (try clear c2); (try clear p2); (try clear c3); (try clear c4); (try clear c5); (try clear c5b0); (try clear c6); (try clear c7); (try clear c8); (try clear c9); (try clear c10); (try clear c10b0); (try clear c13); (try clear c15); (try clear c16); (try clear c18); (try clear c19); (try clear c21); (try clear c22); (try clear c25); (try clear c26); (try clear c27); (try clear c35); (try clear c43); (try clear c48); (try clear c49); (try clear c50); (try clear c51); (try clear c54); (try clear c65); (try clear c69); (try clear c69b0); (try clear c71); (try clear c76); (try clear c79); (try clear c79b0); (try clear c82); (try clear c82b0); (try clear c82b1); (try clear c89); (try clear c98); (try clear hcz12_0); (try clear hcz12_1); (try clear hcz22_0); (try clear hcz22_1); (try clear hcz24_0); (try clear hcz24_1); (try clear hcz31_0); (try clear hcz31_1); (try clear hcz36_0); (try clear hcz36_1); (try clear hcz39_0); (try clear hcz39_1); (try clear hcz66_0); (try clear hcz66_1); (try clear hcz7_0); (try clear hcz7_1); (try clear hcz90_0); (try clear hcz90_1); (try clear hfz12_0); (try clear hfz12_1); (try clear hfz22_0); (try clear hfz22_1); (try clear hfz24_0); (try clear hfz24_1); (try clear hfz31_0); (try clear hfz31_1); (try clear hfz36_0); (try clear hfz36_1); (try clear hfz39_0); (try clear hfz39_1); (try clear hfz66_0); (try clear hfz66_1); (try clear hfz7_0); (try clear hfz7_1); (try clear hfz90_0); (try clear hfz90_1); (try clear p2); obtain ⟨kq, x115_85, rfl, HA, HJ85, HO_12, HO_620000, HO_620001, BK597, BK619, HB⟩ := hcut
         cases kq with
         | zero => exact absurd HA.out (by simp [laws_FnExactCoverTree.j2])
         | succ kj85 =>
          have H := HA.out; clear HA; simp only [laws_FnExactCoverTree.j2] at H
          by_cases c103 : x115_85 = true
          ·subst c103
           rw [if_pos rfl] at H; obtain rfl := sI H
           go_wp2
           go_ret
           exact ⟨by first | rfl | (simp [*] <;> rfl), zB_ HB⟩
          replace c103 := Bool.eq_false_iff.mpr c103; subst c103
          rw [if_neg (show ¬ (false = true) by decide)] at H
          obtain ⟨t660, A104, H⟩ := zbind H
          by_cases c105 : t660 < 0
          ·rw [if_pos c105] at H
           have c105b0 := dT c105; clear c105; obtain rfl := sI H
           go_wp2_with (first | ((with_reducible refine gC (f := 27) rfl ?_); refine zJ (some 118) Try.func27 #[.slice Ao87 t623.length co87, .int .i64 1] ?_; (with_reducible refine (laws_heldIntSS.calls2 HLY.out kj85 _ _ ys 1 t660 _ ?side1 ?side2 A104.out).mono ?_); (case side1 => exact zDS HO_12); (case side2 => exact (Kd.S_reads' HO_12.out).2.1); rintro e w' ⟨rfl, ⟨nd, rfl⟩⟩; refine ⟨_, rfl, ?_⟩))
           go_ret
           exact ⟨by first | rfl | (simp [*] <;> rfl), zB_ HB⟩
          rw [if_neg c105] at H; have c105b0 := dF c105; clear c105
          by_cases c106 : t660 = t644
          ·rw [if_pos c106] at H
           have c106b0 : (t660 == t644) = true := beq_iff_eq.mpr c106
           have c106b1 : (t660 != t644) = false := bne_eq_false_iff_eq.mpr c106
           clear c106; obtain rfl := sI H
           go_wp2_with (first | ((with_reducible refine gC (f := 27) rfl ?_); refine zJ (some 118) Try.func27 #[.slice Ao87 t623.length co87, .int .i64 1] ?_; (with_reducible refine (laws_heldIntSS.calls2 HLY.out kj85 _ _ ys 1 t660 _ ?side1 ?side2 A104.out).mono ?_); (case side1 => exact zDS HO_12); (case side2 => exact (Kd.S_reads' HO_12.out).2.1); rintro e w' ⟨rfl, ⟨nd, rfl⟩⟩; refine ⟨_, rfl, ?_⟩))
           go_ret
           exact ⟨by first | rfl | (simp [*] <;> rfl), zB_ HB⟩
          rw [if_neg c106] at H
          have c106b0 : (t660 == t644) = false := beq_eq_false_iff_ne.mpr c106
          have c106b1 : (t660 != t644) = true := bne_iff_ne.mpr c106
          obtain rfl := sI H
          go_wp2_with (first | ((with_reducible refine gC (f := 27) rfl ?_); refine zJ (some 118) Try.func27 #[.slice Ao87 t623.length co87, .int .i64 1] ?_; (with_reducible refine (laws_heldIntSS.calls2 HLY.out kj85 _ _ ys 1 t660 _ ?side1 ?side2 A104.out).mono ?_); (case side1 => exact zDS HO_12); (case side2 => exact (Kd.S_reads' HO_12.out).2.1); rintro e w' ⟨rfl, ⟨nd, rfl⟩⟩; refine ⟨_, rfl, ?_⟩))
          go_ret
          exact ⟨by first | rfl | (simp [*] <;> rfl), zB_ HB⟩
       rw [if_neg c82] at H
       have c82b0 : (t645 == t644) = false := beq_eq_false_iff_ne.mpr c82
       have c82b1 : (t645 != t644) = true := bne_iff_ne.mpr c82
       obtain rfl := sI H; obtain ⟨Ao107, co107, eo107⟩ := Kd.S_slice HO_12.out; subst eo107
       go_wp2_with (first | ((with_reducible refine gC (f := 26) rfl ?_); refine zJ (some 89) Try.func26 #[.slice Ao107 t623.length co107, .int .i64 1] ?_; have hS_ := Kd.S_bound HO_12.out; refine (laws_markIntSS.calls kj56 _ _ t623 1 t644 ys w _ (zB_ HB) (by (with_reducible repeat apply sA); exact hS_) A77.out).mono ?_; rintro e w108 ⟨rfl, hy_, hb, hkp⟩; refine ⟨_, rfl, ?_⟩; replace HO_8 := A0_ (sM (Kd.S_keptB (zS_ HO_8) hkp (fun k_ hk_ hs_ => by exact absurd hk_.2.2.2 (Nat.not_lt.2 hs_.1.2.2.2))) (fun _ hk => hk.1)); replace HO_12 := A0_ hy_; replace HO_620000 := A0_ (Kd.R_reok rfl (Kd.R_keptB (Kd.R_tight rfl (zR_ HO_620000)) hkp (fun k_ hk_ hs_ => (by have h_ := hs_.1; repeat (first | exact h_.1 hk_ | exact h_ hk_ | replace h_ := h_.2)))) (fun k_ e_ => HO_620000.out.1 k_ e_)); replace HO_620001 := A0_ (Kd.R_reok rfl (Kd.R_keptB (Kd.R_tight rfl (zR_ HO_620001)) hkp (fun k_ hk_ hs_ => (by have h_ := hs_.1; repeat (first | exact h_.1 hk_ | exact h_ hk_ | replace h_ := h_.2)))) (fun k_ e_ => HO_620001.out.1 k_ e_)); replace BK597 := A0_ (blk_kept (zK_ BK597) hkp (fun hs_ => by obtain ⟨_, _, _, q_, hq_, cs_, hc_⟩ := hs_; have e_ := BK597.out.symm.trans hc_; injection e_ with e_; injection e_ with _ e2_ _; subst e2_; exact absurd hq_ (by decide))); replace BK619 := A0_ (blk_kept (zK_ BK619) hkp (fun hs_ => by obtain ⟨_, _, _, q_, hq_, cs_, hc_⟩ := hs_; have e_ := BK619.out.symm.trans hc_; injection e_ with e_; injection e_ with _ e2_ _; subst e2_; exact absurd hq_ (by decide))); replace HB := A0_ (hb); (try clear hb); (try clear hkp); (try clear hS_); (try clear hy_)) | ((with_reducible refine gC (f := 27) rfl ?_); refine zJ (some 92) Try.func27 #[.slice Ao107 t623.length co107, .int .i64 1] ?_; (with_reducible refine (laws_heldIntSS.calls2 HLY.out kj56 _ _ ys 1 t645 _ ?side1 ?side2 A78.out).mono ?_); (case side1 => exact zDS HO_12); (case side2 => exact (Kd.S_reads' HO_12.out).2.1); rintro e w' ⟨rfl, ⟨nd, rfl⟩⟩; refine ⟨_, rfl, ?_⟩))
       go_ret
       exact ⟨by first | rfl | (simp [*] <;> rfl), zB_ HB⟩
    replace c54 := Bool.eq_false_iff.mpr c54; subst c54
    rw [if_neg (show ¬ (false = true) by decide)] at H
    obtain rfl := sI H
    try go_wp2
    replace HO_8 := A0_ (sD HO_8.out)
    replace HO_11 := A0_ (sD HO_11.out)
    replace HO_12 := A0_ (sD HO_12.out)
    replace HO_620000 := A0_ (rD HO_620000.out)
    replace HO_620001 := A0_ (rD HO_620001.out)
    replace BK597 := A0_ (kD BK597.out)
    replace BK619 := A0_ (kD BK619.out)
    replace HB := A0_ (bD HB.out)
    refine start_ (n := 5) (S := fun w' => w'.cell? ⟨gb619, 0, none⟩ = some (.slice Ao34 t613.length co34) ∧ w'.cell? ⟨gb619, 1, none⟩ = some (.slice Ao37 t616.length co37) ∧ w'.cell? ⟨gb597, 0, none⟩ = some (.slice A0_0 l0_0.length c0_0) ∧ w'.cell? ⟨gb597, 1, none⟩ = some (.slice A0_1 l0_1.length c0_1)) (ds := []) #[false, false, false, false, false] (by kernel_rfl) rfl rfl ⟨(kC BK619.out 0).trans rfl, (kC BK619.out 1).trans rfl, (kC BK597.out 0).trans rfl, (kC BK597.out 1).trans rfl⟩ (fun hHeld => ?_)
    generalize wc.drew = w109 at HO_8 HO_11 HO_12 HO_620000 HO_620001 BK597 BK619 HB hHeld ⊢
    refine take_ (i := 0) (N := some 58) (v := ?_) (a' := ?_) #[true, false, false, false, false] rfl rfl (by kernel_rfl) (fun _ _ _ h => h) (Or.inl ⟨by rfl, ?_⟩) hHeld ?_ ?_
    rotate_left
    ·rintro w' ⟨s0, s1, s2, s3⟩
     go_simp
     with_reducible rfl
    rotate_left
    ·simp only [Act.put, List.setIfInBounds_toArray, List.set_cons_zero, List.set_cons_succ, i64_w, i32_w]
     rfl
    refine take_ (i := 1) (N := some 59) (v := ?_) (a' := ?_) #[true, true, false, false, false] rfl rfl (by kernel_rfl) (fun _ _ _ h => h) (Or.inl ⟨by rfl, ?_⟩) hHeld ?_ ?_
    rotate_left
    ·rintro w' ⟨s0, s1, s2, s3⟩
     go_simp
     with_reducible rfl
    rotate_left
    ·simp only [Act.put, List.setIfInBounds_toArray, List.set_cons_zero, List.set_cons_succ, i64_w, i32_w]
     rfl
    refine one_ (i := 2) (N := some 60) #[true, true, true, false, false] rfl rfl (by kernel_rfl) (by decide) (fun K hK => ?_)
    refine goes_ Try.func18 (by kernel_rfl) rfl #[.agg #[.slice A0_0 l0_0.length c0_0, .slice A0_1 l0_1.length c0_1]] (by rfl) rfl rfl (by (try simp only [List.map_toArray, List.map_cons, List.map_nil]); first | done | rfl | (simp only [List.length_drop, List.length_take]; rfl)) ?_
    with_reducible refine (laws_toMap.calls kj19 _ _ l0_0 _ _ l0_1 t628 t631 _ ?side1 ?side2 ?side3 ?side4 A49.out).mono ?_
    (case side1 => exact zC HR0_0 HB)
    (case side2 => exact HC0_0.out)
    (case side3 => exact zC HR0_1 HB)
    (case side4 => exact HC0_1.out)
    rintro e w110 ⟨v629, v632, rfl, ho0, ho1, hb⟩
    refine ⟨_, rfl, ?_⟩
    replace HO_8 := A0_ (sM (Kd.S_told (Kd.S_told (Kd.S_old (zS_ HO_8) hb) (Kd.R_base ho0)) (Kd.R_base ho1)) (fun _ h_ => h_.1))
    replace HO_11 := A0_ (sM (Kd.S_told (Kd.S_told (Kd.S_old (zS_ HO_11) hb) (Kd.R_base ho0)) (Kd.R_base ho1)) (fun _ h_ => h_.1))
    replace HO_12 := A0_ (sM (Kd.S_told (Kd.S_told (Kd.S_old (zS_ HO_12) hb) (Kd.R_base ho0)) (Kd.R_base ho1)) (fun _ h_ => h_.1))
    have HO630 := A0_ (rL (Kd.R_new' (Kd.R_new' ho0 (rX (zR_ HO_620000))) (rX (zR_ HO_620001))) (bZ (zB_ HB)))
    have HO633 := A0_ (rL (Kd.R_new' (Kd.R_new' ho1 (rX (zR_ HO_620000))) (rX (zR_ HO_620001))) (bZ (zB_ HB)))
    replace HO_620000 := A0_ (rM (rT (rT (rO (zR_ HO_620000) hb) (Kd.R_base ho0)) (Kd.R_base ho1)) (fun _ h_ => h_.1))
    replace HO_620001 := A0_ (rM (rT (rT (rO (zR_ HO_620001) hb) (Kd.R_base ho0)) (Kd.R_base ho1)) (fun _ h_ => h_.1))
    replace BK597 := zK BK597 hb; replace BK619 := zK BK619 hb; replace HB := zB HB hb; (try clear hb); (try clear hb2); (try clear hk); (try clear hi); (try clear ho0); (try clear ho1); obtain ⟨Ao111, co111, eo111⟩ := rS HO630.out
    (first | subst eo111 | (injection eo111 with f1_ f2_ f3_; have f4_ := f1_.symm; have f5_ := f3_.symm; clear f1_ f2_ f3_; subst f4_; subst f5_))
    obtain ⟨Ao112, co112, eo112⟩ := rS HO633.out
    (first | subst eo112 | (injection eo112 with f1_ f2_ f3_; have f4_ := f1_.symm; have f5_ := f3_.symm; clear f1_ f2_ f3_; subst f4_; subst f5_))
    refine hK.out _ _ ⟨(kC BK619.out 0).trans rfl, (kC BK619.out 1).trans rfl, (kC BK597.out 0).trans rfl, (kC BK597.out 1).trans rfl⟩ (fun hHeld => ?_)
    clear hK K
    refine norm_ (a' := ?_) ?_ ?_
    rotate_left
    ·show Act.put _ (some 60) _ = _
     simp only [Act.put, List.setIfInBounds_toArray, List.set_cons_zero, List.set_cons_succ, i64_w, i32_w]
     rfl
    refine one_ (i := 3) (N := some 61) #[true, true, true, true, false] rfl rfl (by kernel_rfl) (by decide) (fun K hK => ?_)
    refine goes_ Try.func21 (by kernel_rfl) rfl #[.agg #[.slice Ao34 t613.length co34, .slice Ao37 t616.length co37], .agg #[.slice Ao111 t628.length co111, .slice Ao112 t631.length co112]] (by rfl) rfl rfl (by (try simp only [List.map_toArray, List.map_cons, List.map_nil]); first | done | rfl | (simp only [List.length_drop, List.length_take]; rfl)) ?_
    with_reducible refine (laws_eqMap.calls kj19 _ _ t613 _ _ t616 _ _ t628 _ _ t631 true _ ?side1 ?side2 ?side3 ?side4 ?side5 ?side6 ?side7 ?side8 A50.out).mono ?_
    (case side1 => exact zD HO_620000)
    (case side2 => exact (rR HO_620000.out).2.1)
    (case side3 => exact zD HO_620001)
    (case side4 => exact (rR HO_620001.out).2.1)
    (case side5 => exact zD HO630)
    (case side6 => exact (rR HO630.out).2.1)
    (case side7 => exact zD HO633)
    (case side8 => exact (rR HO633.out).2.1)
    rintro e w113 ⟨rfl, hb⟩
    refine ⟨_, rfl, ?_⟩
    replace HO_8 := zS HO_8 hb; replace HO_11 := zS HO_11 hb; replace HO_12 := zS HO_12 hb; replace HO_620000 := zR HO_620000 hb; replace HO_620001 := zR HO_620001 hb; replace HO630 := zR HO630 hb; replace HO633 := zR HO633 hb; replace BK597 := zK BK597 hb; replace BK619 := zK BK619 hb; replace HB := zB HB hb; (try clear hb); (try clear hb2); (try clear hk); (try clear hi)
    refine hK.out _ _ ⟨(kC BK619.out 0).trans rfl, (kC BK619.out 1).trans rfl, (kC BK597.out 0).trans rfl, (kC BK597.out 1).trans rfl⟩ (fun hHeld => ?_)
    clear hK K
    refine norm_ (a' := ?_) ?_ ?_
    rotate_left
    ·show Act.put _ (some 61) _ = _
     simp only [Act.put, List.setIfInBounds_toArray, List.set_cons_zero, List.set_cons_succ, i64_w, i32_w]
     rfl
    refine pure_ (i := 4) (N := some 62) (v := ?_) (a' := ?_) #[true, true, true, true, true] rfl rfl (by kernel_rfl) (fun _ _ _ h => h) (Or.inl ⟨by rfl, ?_⟩) ?_ ?_
    rotate_left
    ·intro w'
     go_simp
     with_reducible rfl
    rotate_left
    ·simp only [Act.put, List.setIfInBounds_toArray, List.set_cons_zero, List.set_cons_succ, i64_w, i32_w]
     rfl
    refine done_ (by kernel_rfl) ?_
    try go_wp2_with (first | ((with_reducible refine gC (f := 19) rfl ?_); refine zJ (some 65) Try.func19 #[.slice A2 l2.length c2] ?_; (with_reducible refine (laws_toIntSS.calls kj19 _ _ l2 t635 _ ?side1 ?side2 A52.out).mono ?_); (case side1 => exact zC HR2 HB); (case side2 => exact HC2.out); rintro e w114 ⟨v636, rfl, ho0, hb⟩; refine ⟨_, rfl, ?_⟩; have HO637 := A0_ (Kd.S_lower (Kd.S_new' (Kd.S_new' (Kd.S_new' (Kd.S_new' (Kd.S_new' (Kd.S_new' (Kd.S_new' ho0 (Kd.S_lt (zS_ HO_8))) (Kd.S_lt (zS_ HO_11))) (Kd.S_lt (zS_ HO_12))) (rX (zR_ HO_620000))) (rX (zR_ HO_620001))) (rX (zR_ HO630))) (rX (zR_ HO633))) (bZ (zB_ HB))); replace HO_8 := A0_ (Kd.S_elder' (zS_ HO_8) (Kd.S_base ho0) hb); replace HO_11 := A0_ (Kd.S_elder' (zS_ HO_11) (Kd.S_base ho0) hb); replace HO_12 := A0_ (Kd.S_elder' (zS_ HO_12) (Kd.S_base ho0) hb); replace HO_620000 := zR HO_620000 hb; replace HO_620001 := zR HO_620001 hb; replace HO630 := zR HO630 hb; replace HO633 := zR HO633 hb; replace BK597 := zK BK597 hb; replace BK619 := zK BK619 hb; replace HB := zB HB hb; (try clear hb); (try clear ho0); obtain ⟨Ao115, co115, eo115⟩ := Kd.S_slice HO637.out; subst eo115) | ((with_reducible refine gC (f := 22) rfl ?_); refine zJ (some 66) Try.func22 #[.slice Ao40 t620.length co40, .slice Ao115 t635.length co115] ?_; (with_reducible refine (laws_eqIntSS.calls kj19 _ _ t620 _ _ t635 false _ ?side1 ?side2 ?side3 ?side4 A53.out).mono ?_); (case side1 => exact zDS HO_11); (case side2 => exact (Kd.S_reads' HO_11.out).2.1); (case side3 => exact zDS HO637); (case side4 => exact (Kd.S_reads' HO637.out).2.1); rintro e w' ⟨rfl, ⟨nd, rfl⟩⟩; refine ⟨_, rfl, ?_⟩))
    go_ret
    exact ⟨by first | rfl | (simp [*] <;> rfl), zB_ HB⟩
   replace c51 := Bool.eq_false_iff.mpr c51; subst c51
   rw [if_neg (show ¬ (false = true) by decide)] at H
   obtain rfl := sI H
   try go_wp2
   replace HO_8 := A0_ (sD HO_8.out)
   replace HO_11 := A0_ (sD HO_11.out)
   replace HO_12 := A0_ (sD HO_12.out)
   replace HO_620000 := A0_ (rD HO_620000.out)
   replace HO_620001 := A0_ (rD HO_620001.out)
   replace BK597 := A0_ (kD BK597.out)
   replace BK619 := A0_ (kD BK619.out)
   replace HB := A0_ (bD HB.out)
   refine start_ (n := 5) (S := fun w' => w'.cell? ⟨gb619, 0, none⟩ = some (.slice Ao34 t613.length co34) ∧ w'.cell? ⟨gb619, 1, none⟩ = some (.slice Ao37 t616.length co37) ∧ w'.cell? ⟨gb597, 0, none⟩ = some (.slice A0_0 l0_0.length c0_0) ∧ w'.cell? ⟨gb597, 1, none⟩ = some (.slice A0_1 l0_1.length c0_1)) (ds := []) #[false, false, false, false, false] (by kernel_rfl) rfl rfl ⟨(kC BK619.out 0).trans rfl, (kC BK619.out 1).trans rfl, (kC BK597.out 0).trans rfl, (kC BK597.out 1).trans rfl⟩ (fun hHeld => ?_)
   generalize wc.drew = w116 at HO_8 HO_11 HO_12 HO_620000 HO_620001 BK597 BK619 HB hHeld ⊢
   refine take_ (i := 0) (N := some 58) (v := ?_) (a' := ?_) #[true, false, false, false, false] rfl rfl (by kernel_rfl) (fun _ _ _ h => h) (Or.inl ⟨by rfl, ?_⟩) hHeld ?_ ?_
   rotate_left
   ·rintro w' ⟨s0, s1, s2, s3⟩
    go_simp
    with_reducible rfl
   rotate_left
   ·simp only [Act.put, List.setIfInBounds_toArray, List.set_cons_zero, List.set_cons_succ, i64_w, i32_w]
    rfl
   refine take_ (i := 1) (N := some 59) (v := ?_) (a' := ?_) #[true, true, false, false, false] rfl rfl (by kernel_rfl) (fun _ _ _ h => h) (Or.inl ⟨by rfl, ?_⟩) hHeld ?_ ?_
   rotate_left
   ·rintro w' ⟨s0, s1, s2, s3⟩
    go_simp
    with_reducible rfl
   rotate_left
   ·simp only [Act.put, List.setIfInBounds_toArray, List.set_cons_zero, List.set_cons_succ, i64_w, i32_w]
    rfl
   refine one_ (i := 2) (N := some 60) #[true, true, true, false, false] rfl rfl (by kernel_rfl) (by decide) (fun K hK => ?_)
   refine goes_ Try.func18 (by kernel_rfl) rfl #[.agg #[.slice A0_0 l0_0.length c0_0, .slice A0_1 l0_1.length c0_1]] (by rfl) rfl rfl (by (try simp only [List.map_toArray, List.map_cons, List.map_nil]); first | done | rfl | (simp only [List.length_drop, List.length_take]; rfl)) ?_
   with_reducible refine (laws_toMap.calls kj19 _ _ l0_0 _ _ l0_1 t628 t631 _ ?side1 ?side2 ?side3 ?side4 A49.out).mono ?_
   (case side1 => exact zC HR0_0 HB)
   (case side2 => exact HC0_0.out)
   (case side3 => exact zC HR0_1 HB)
   (case side4 => exact HC0_1.out)
   rintro e w117 ⟨v629, v632, rfl, ho0, ho1, hb⟩
   refine ⟨_, rfl, ?_⟩
   replace HO_8 := A0_ (sM (Kd.S_told (Kd.S_told (Kd.S_old (zS_ HO_8) hb) (Kd.R_base ho0)) (Kd.R_base ho1)) (fun _ h_ => h_.1))
   replace HO_11 := A0_ (sM (Kd.S_told (Kd.S_told (Kd.S_old (zS_ HO_11) hb) (Kd.R_base ho0)) (Kd.R_base ho1)) (fun _ h_ => h_.1))
   replace HO_12 := A0_ (sM (Kd.S_told (Kd.S_told (Kd.S_old (zS_ HO_12) hb) (Kd.R_base ho0)) (Kd.R_base ho1)) (fun _ h_ => h_.1))
   have HO630 := A0_ (rL (Kd.R_new' (Kd.R_new' ho0 (rX (zR_ HO_620000))) (rX (zR_ HO_620001))) (bZ (zB_ HB)))
   have HO633 := A0_ (rL (Kd.R_new' (Kd.R_new' ho1 (rX (zR_ HO_620000))) (rX (zR_ HO_620001))) (bZ (zB_ HB)))
   replace HO_620000 := A0_ (rM (rT (rT (rO (zR_ HO_620000) hb) (Kd.R_base ho0)) (Kd.R_base ho1)) (fun _ h_ => h_.1))
   replace HO_620001 := A0_ (rM (rT (rT (rO (zR_ HO_620001) hb) (Kd.R_base ho0)) (Kd.R_base ho1)) (fun _ h_ => h_.1))
   replace BK597 := zK BK597 hb; replace BK619 := zK BK619 hb; replace HB := zB HB hb; (try clear hb); (try clear hb2); (try clear hk); (try clear hi); (try clear ho0); (try clear ho1); obtain ⟨Ao118, co118, eo118⟩ := rS HO630.out
   (first | subst eo118 | (injection eo118 with f1_ f2_ f3_; have f4_ := f1_.symm; have f5_ := f3_.symm; clear f1_ f2_ f3_; subst f4_; subst f5_))
   obtain ⟨Ao119, co119, eo119⟩ := rS HO633.out
   (first | subst eo119 | (injection eo119 with f1_ f2_ f3_; have f4_ := f1_.symm; have f5_ := f3_.symm; clear f1_ f2_ f3_; subst f4_; subst f5_))
   refine hK.out _ _ ⟨(kC BK619.out 0).trans rfl, (kC BK619.out 1).trans rfl, (kC BK597.out 0).trans rfl, (kC BK597.out 1).trans rfl⟩ (fun hHeld => ?_)
   clear hK K
   refine norm_ (a' := ?_) ?_ ?_
   rotate_left
   ·show Act.put _ (some 60) _ = _
    simp only [Act.put, List.setIfInBounds_toArray, List.set_cons_zero, List.set_cons_succ, i64_w, i32_w]
    rfl
   refine one_ (i := 3) (N := some 61) #[true, true, true, true, false] rfl rfl (by kernel_rfl) (by decide) (fun K hK => ?_)
   refine goes_ Try.func21 (by kernel_rfl) rfl #[.agg #[.slice Ao34 t613.length co34, .slice Ao37 t616.length co37], .agg #[.slice Ao118 t628.length co118, .slice Ao119 t631.length co119]] (by rfl) rfl rfl (by (try simp only [List.map_toArray, List.map_cons, List.map_nil]); first | done | rfl | (simp only [List.length_drop, List.length_take]; rfl)) ?_
   with_reducible refine (laws_eqMap.calls kj19 _ _ t613 _ _ t616 _ _ t628 _ _ t631 false _ ?side1 ?side2 ?side3 ?side4 ?side5 ?side6 ?side7 ?side8 A50.out).mono ?_
   (case side1 => exact zD HO_620000)
   (case side2 => exact (rR HO_620000.out).2.1)
   (case side3 => exact zD HO_620001)
   (case side4 => exact (rR HO_620001.out).2.1)
   (case side5 => exact zD HO630)
   (case side6 => exact (rR HO630.out).2.1)
   (case side7 => exact zD HO633)
   (case side8 => exact (rR HO633.out).2.1)
   rintro e w120 ⟨rfl, hb⟩
   refine ⟨_, rfl, ?_⟩
   replace HO_8 := zS HO_8 hb; replace HO_11 := zS HO_11 hb; replace HO_12 := zS HO_12 hb; replace HO_620000 := zR HO_620000 hb; replace HO_620001 := zR HO_620001 hb; replace HO630 := zR HO630 hb; replace HO633 := zR HO633 hb; replace BK597 := zK BK597 hb; replace BK619 := zK BK619 hb; replace HB := zB HB hb; (try clear hb); (try clear hb2); (try clear hk); (try clear hi)
   refine hK.out _ _ ⟨(kC BK619.out 0).trans rfl, (kC BK619.out 1).trans rfl, (kC BK597.out 0).trans rfl, (kC BK597.out 1).trans rfl⟩ (fun hHeld => ?_)
   clear hK K
   refine norm_ (a' := ?_) ?_ ?_
   rotate_left
   ·show Act.put _ (some 61) _ = _
    simp only [Act.put, List.setIfInBounds_toArray, List.set_cons_zero, List.set_cons_succ, i64_w, i32_w]
    rfl
   refine pure_ (i := 4) (N := some 62) (v := ?_) (a' := ?_) #[true, true, true, true, true] rfl rfl (by kernel_rfl) (fun _ _ _ h => h) (Or.inl ⟨by rfl, ?_⟩) ?_ ?_
   rotate_left
   ·intro w'
    go_simp
    with_reducible rfl
   rotate_left
   ·simp only [Act.put, List.setIfInBounds_toArray, List.set_cons_zero, List.set_cons_succ, i64_w, i32_w]
    rfl
   refine done_ (by kernel_rfl) ?_
   try go_wp2
   go_ret
   exact ⟨by first | rfl | (simp [*] <;> rfl), zB_ HB⟩

end Go.Proofs.Ytmcgkckdnelcdaa.PFnExactCoverTree
