-- Made by a program of this session (wip/tools) out of the loaded program; not trusted: Lean checks it.
import Derived.Test.YtmegggomhjgehaaPFnDeckx0
import Derived.Test.YtmegggomhjgehaaPFnDeckx2
import Derived.Test.YtmegggomhjgehaaPFnDeckx13
import Derived.Test.YtmegggomhjgehaaPFnDeckx14
-- packed
namespace Go.Proofs.Ytmegggomhjgehaa.PFnDeck
open Go.RowKit Go.Proofs.YtmegggomhjgehaaW.PrintWords Go.Proofs.YtmegggomhjgehaaW.PrintLast Go.Proofs.YtmegggomhjgehaaW.PrintMore
attribute [local go_sem] max2_int min2_int max_two min_two max_three min_three max_four min_four   -- for this text's walks alone
set_option linter.unusedVariables false
set_option linter.unusedSimpArgs false

/-! ### impl_MapTurns: function 29 -/
def impl_MapTurns.l0 : Nat → Int → Int → Int → List Int → List Int → List Int → List Int → Option (Int)
  | 0, _, _, _, _, _, _, _ => none
  | k + 1, x4, x15, x16, x517000, x517001, x528000, x528001 => if x16 < x15 then ((impl_namesFrom.f k x517000 x517001 x16).bind fun t528 => ((impl_renamed.f k x517000 x517001 t528).bind fun bt531 => ((impl_compareMaps.f k bt531.1 bt531.2 x528000 x528001).bind fun t537 => (if t537 = 0 then (impl_MapTurns.l0 k (wrap64 (x4 + 1)) x15 (wrap64 (x16 + 1)) x517000 x517001 x528000 x528001) else (impl_MapTurns.l0 k x4 x15 (wrap64 (x16 + 1)) x517000 x517001 x528000 x528001))))) else (some x4)
def impl_MapTurns.f (k : Nat) (l0_0 : List Int) (l0_1 : List Int) : Option (Int) := (impl_MapValid.f k l0_0 l0_1).bind fun t517 => (if t517 = true then ((impl_namesFrom.f k l0_0 l0_1 0).bind fun t518 => ((impl_renamed.f k l0_0 l0_1 t518).bind fun bt521 => (impl_MapTurns.l0 k 0 (l0_0.length : Int) 0 l0_0 l0_1 bt521.1 bt521.2))) else (some (-1)))
def impl_MapTurns.T7 : Bool × List (List Nat × List Nat) := (true, [([], []), ([], []), ([], []), ([1, 2], [1, 2]), ([0, 3, 3], [0, 3]), ([], []), ([4, 5, 4], [4, 5]), ([6], [6])])
def impl_MapTurns.B7 : List Nat := [0, 0, 0, 6, 15, 0, 63, 127]
theorem impl_MapTurns.tab7 : rtab .any (opsOf Try.f29 7) = impl_MapTurns.T7 := by kernel_rfl
theorem impl_MapTurns.bits7 : waitsOk impl_MapTurns.T7.2 impl_MapTurns.B7 = true := by kernel_rfl
set_option maxHeartbeats 8000000 in
set_option maxRecDepth 100000 in
theorem impl_MapTurns.calls (k : Nat) (A0_0 : Option Addr) (c0_0 : Nat) (l0_0 : List Int) (A0_1 : Option Addr) (c0_1 : Nat) (l0_1 : List Int) (r : Int) (w : World) (hr0_0 : Kd.C (Kd.int .i64) w A0_0 l0_0.length l0_0) (hc0_0 : l0_0.length ≤ c0_0) (hr0_1 : Kd.C (Kd.int .i64) w A0_1 l0_1.length l0_1) (hc0_1 : l0_1.length ≤ c0_1) (h : impl_MapTurns.f k l0_0 l0_1 = some r) :
    Calls Try.prog 29 #[.agg #[.slice A0_0 l0_0.length c0_0, .slice A0_1 l0_1.length c0_1]] w fun e w' => e = .returned (.int .i64 r) ∧ Below w.heap.size w w' := by
 have hu25 := Try.underlying25; have HR0_0 := A0_ hr0_0; have HC0_0 := A0_ hc0_0; clear hr0_0 hc0_0; have HR0_1 := A0_ hr0_1; have HC0_1 := A0_ hc0_1; clear hr0_1 hc0_1
 have HB := A0_ (Below.refl w.heap.size w)
 have H : ((impl_MapValid.f k l0_0 l0_1).bind fun t517 => (if t517 = true then ((impl_namesFrom.f k l0_0 l0_1 0).bind fun t518 => ((impl_renamed.f k l0_0 l0_1 t518).bind fun bt521 => (impl_MapTurns.l0 k 0 (l0_0.length : Int) 0 l0_0 l0_1 bt521.1 bt521.2))) else (some (-1)))) = some r := h
 clear h; obtain ⟨t517, A2, H⟩ := zbind H
 by_cases c3 : t517 = true
 ·subst c3
  rw [if_pos rfl] at H; obtain ⟨t518, A4, H⟩ := zbind H; obtain ⟨⟨t521, t524⟩, A5, H⟩ := zbind H; dsimp only at H; have H' := A0_ H; clear H
  go_enter Try.func29, Try.ntmps29
  try go_wp2_with (first | ((with_reducible refine gD (N := 1) rfl ?_); refine zX (N := 1) (cs := #[.slice A0_0 l0_0.length c0_0, .slice A0_1 l0_1.length c0_1]) (t := 25) ?_; intro gb516 hg w6 hbox hb; have BK516 := A0_ (hbox); have GW516 := zG hg HB; have GE516 := zG hg HB; replace HB := zB HB hb; clear hb hbox hg; have hcz7_0 := zc0 BK516; have hcz7_1 := zc1 BK516; have hfz7_0 := kF BK516.out 0; have hfz7_1 := kF BK516.out 1) | ((with_reducible refine gC (f := 54) rfl ?_); refine zJ (some 7) Try.func54 #[.agg #[.slice A0_0 l0_0.length c0_0, .slice A0_1 l0_1.length c0_1]] ?_; (with_reducible refine (impl_MapValid.calls k (fun k_ => k_ < w.heap.size) _ _ l0_0 (fun k_ => k_ < w.heap.size) _ _ l0_1 true _ ?side1 ?side2 A2.out).mono ?_); (case side1 => exact Kd.V_mk HC0_0.out (Kd.F_below (Kd.C_F (Kd.heap_int .i64) HR0_0.out) (zB_ HB))); (case side2 => exact Kd.V_mk HC0_1.out (Kd.F_below (Kd.C_F (Kd.heap_int .i64) HR0_1.out) (zB_ HB))); rintro e w8 ⟨rfl, hb⟩; refine ⟨_, rfl, ?_⟩; replace BK516 := zK BK516 hb; replace HB := zB HB hb; (try clear hb)))
  replace BK516 := A0_ (kD BK516.out)
  replace HB := A0_ (bD HB.out)
  refine start_ (n := 7) (S := fun w' => w'.cell? ⟨gb516, 0, none⟩ = some (.slice A0_0 l0_0.length c0_0) ∧ w'.cell? ⟨gb516, 1, none⟩ = some (.slice A0_1 l0_1.length c0_1)) (ds := []) #[false, false, false, false, false, false, false] (by kernel_rfl) rfl rfl ⟨(kC BK516.out 0).trans rfl, (kC BK516.out 1).trans rfl⟩ (fun hHeld => ?_)
  generalize w8.drew = w9 at BK516 HB hHeld ⊢
  refine take_ (i := 0) (N := some 9) (v := ?_) (a' := ?_) #[true, false, false, false, false, false, false] rfl rfl (by kernel_rfl) (fun _ _ _ h => h) (Or.inl ⟨by rfl, ?_⟩) hHeld ?_ ?_
  rotate_left
  ·rintro w' ⟨s0, s1⟩
   go_simp
   with_reducible rfl
  rotate_left
  ·simp only [Act.put, List.setIfInBounds_toArray, List.set_cons_zero, List.set_cons_succ, i64_w, i32_w]
   rfl
  refine take_ (i := 1) (N := some 10) (v := ?_) (a' := ?_) #[true, true, false, false, false, false, false] rfl rfl (by kernel_rfl) (fun _ _ _ h => h) (Or.inl ⟨by rfl, ?_⟩) hHeld ?_ ?_
  rotate_left
  ·rintro w' ⟨s0, s1⟩
   go_simp
   with_reducible rfl
  rotate_left
  ·simp only [Act.put, List.setIfInBounds_toArray, List.set_cons_zero, List.set_cons_succ, i64_w, i32_w]
   rfl
  refine join_ (σ := Value × Value × Value × Nat) 2 #[true, true, true, true, true, false, false] (fun s_ => [(11, s_.1), (12, .agg #[s_.2.1, s_.2.2.1]), (3, .pointer (some ⟨s_.2.2.2, 0, none⟩))]) (fun s_ w' => (w'.cell? ⟨gb516, 0, none⟩ = some (.slice A0_0 l0_0.length c0_0) ∧ w'.cell? ⟨gb516, 1, none⟩ = some (.slice A0_1 l0_1.length c0_1)) ∧ (Kd.R (Kd.int .i64) 3 w' w.heap.size (fun k_ => some k_ ≠ (s_.2.1 : Value).ownBlock ∧ some k_ ≠ (s_.2.2.1 : Value).ownBlock) s_.1 t518) ∧ (Kd.R (Kd.int .i64) 3 w' w.heap.size (fun k_ => some k_ ≠ (s_.1 : Value).ownBlock ∧ some k_ ≠ (s_.2.2.1 : Value).ownBlock) s_.2.1 t521) ∧ (Kd.R (Kd.int .i64) 3 w' w.heap.size (fun k_ => some k_ ≠ (s_.1 : Value).ownBlock ∧ some k_ ≠ (s_.2.1 : Value).ownBlock) s_.2.2.1 t524) ∧ (w'.heap[gb516]? = some (.cells #[.slice A0_0 l0_0.length c0_0, .slice A0_1 l0_1.length c0_1] 25 (0, 0))) ∧ (w'.heap[s_.2.2.2]? = some (.cells #[.slice none 0 0, .slice none 0 0] 25 (0, 0))) ∧ (w.heap.size ≤ s_.2.2.2) ∧ (w.heap.size ≤ s_.2.2.2) ∧ (gb516 ≠ s_.2.2.2) ∧ (s_.2.2.2 ≠ gb516) ∧ (Below w.heap.size w w')) ?_ ?_
  rotate_left
  ·intro hCont
   refine two_ (i := 2) (j := 4) (Ni := some 11) (Nj := some 3) #[true, true, true, false, false, false, false] #[true, true, false, false, true, false, false] rfl rfl rfl rfl (by kernel_rfl) (by decide) (by decide) (fun K hK => ?_) (fun K hK => ?_)
   ·skip
    refine goes_ Try.func61 (by kernel_rfl) rfl #[.agg #[.slice A0_0 l0_0.length c0_0, .slice A0_1 l0_1.length c0_1], .int .i64 0] (by rfl) rfl rfl (by (try simp only [List.map_toArray, List.map_cons, List.map_nil]); first | done | rfl | (simp only [List.length_drop, List.length_take]; rfl)) ?_
    with_reducible refine (impl_namesFrom.calls k _ _ l0_0 _ _ l0_1 0 t518 _ ?side1 ?side2 ?side3 ?side4 A4.out).mono ?_
    (case side1 => exact zC HR0_0 HB)
    (case side2 => exact HC0_0.out)
    (case side3 => exact zC HR0_1 HB)
    (case side4 => exact HC0_1.out)
    rintro e w10 ⟨v519, rfl, ho0, hb⟩
    refine ⟨_, rfl, ?_⟩
    have HO520 := A0_ (rL ho0 (bZ (zB_ HB)))
    replace BK516 := zK BK516 hb; replace HB := zB HB hb; (try clear hb); (try clear hb2); (try clear hk); (try clear hi); (try clear ho0); obtain ⟨Ao11, co11, eo11⟩ := rS HO520.out
    (first | subst eo11 | (injection eo11 with f1_ f2_ f3_; have f4_ := f1_.symm; have f5_ := f3_.symm; clear f1_ f2_ f3_; subst f4_; subst f5_))
    refine hK.out _ _ ⟨(kC BK516.out 0).trans rfl, (kC BK516.out 1).trans rfl⟩ (fun hHeld => ?_)
    clear hK K
    refine norm_ (a' := ?_) ?_ ?_
    rotate_left
    ·show Act.put _ (some 11) _ = _
     simp only [Act.put, List.setIfInBounds_toArray, List.set_cons_zero, List.set_cons_succ, i64_w, i32_w]
     rfl
    refine two_ (i := 3) (j := 4) (Ni := some 12) (Nj := some 3) #[true, true, true, true, false, false, false] #[true, true, true, false, true, false, false] rfl rfl rfl rfl (by kernel_rfl) (by decide) (by decide) (fun K hK => ?_) (fun K hK => ?_)
    ·skip
     refine goes_ Try.func83 (by kernel_rfl) rfl #[.agg #[.slice A0_0 l0_0.length c0_0, .slice A0_1 l0_1.length c0_1], .slice Ao11 t518.length co11] (by rfl) rfl rfl (by (try simp only [List.map_toArray, List.map_cons, List.map_nil]); first | done | rfl | (simp only [List.length_drop, List.length_take]; rfl)) ?_
     with_reducible refine (impl_renamed.calls k _ _ l0_0 _ _ l0_1 _ _ t518 t521 t524 _ ?side1 ?side2 ?side3 ?side4 ?side5 ?side6 A5.out).mono ?_
     (case side1 => exact zC HR0_0 HB)
     (case side2 => exact HC0_0.out)
     (case side3 => exact zC HR0_1 HB)
     (case side4 => exact HC0_1.out)
     (case side5 => exact zD HO520)
     (case side6 => exact (rR HO520.out).2.1)
     rintro e w12 ⟨v522, v525, rfl, ho0, ho1, hb⟩
     refine ⟨_, rfl, ?_⟩
     have HO523 := A0_ (rL (Kd.R_new' ho0 (rX (zR_ HO520))) (bZ (zB_ HB)))
     have HO526 := A0_ (rL (Kd.R_new' ho1 (rX (zR_ HO520))) (bZ (zB_ HB)))
     replace HO520 := A0_ (rM (rT (rT (rO (zR_ HO520) hb) (Kd.R_base ho0)) (Kd.R_base ho1)) (fun _ h_ => h_.1))
     replace BK516 := zK BK516 hb; replace HB := zB HB hb; (try clear hb); (try clear hb2); (try clear hk); (try clear hi); (try clear ho0); (try clear ho1)
     refine hK.out _ _ ⟨(kC BK516.out 0).trans rfl, (kC BK516.out 1).trans rfl⟩ (fun hHeld => ?_)
     clear hK K
     refine norm_ (a' := ?_) ?_ ?_
     rotate_left
     ·show Act.put _ (some 12) _ = _
      simp only [Act.put, List.setIfInBounds_toArray, List.set_cons_zero, List.set_cons_succ, i64_w, i32_w]
      rfl
     refine one_ (i := 4) (N := some 3) #[true, true, true, true, true, false, false] rfl rfl (by kernel_rfl) (by decide) (fun K hK => ?_)
     refine box_step ?hg (N := 3) ?hd (cs := #[.slice none 0 0, .slice none 0 0]) (t := 25) ?hr ?_; (case hd => rfl); (case hg => rfl); (case hr => first | (go_simp; done) | (go_simp; rfl))
     intro gb527 hg w13 hbox hb
     replace HO520 := zR HO520 hb; replace HO523 := zR HO523 hb; replace HO526 := zR HO526 hb
     have BK527 := A0_ (hbox)
     have GW527 := zG hg HB; have GE527 := zG hg HB; replace HB := zB HB hb; have NB516_527 := zL hg BK516; have NB527_516 := zM hg BK516; replace BK516 := zK BK516 hb; clear hb hbox hg
     refine hK.out _ _ ⟨(kC BK516.out 0).trans rfl, (kC BK516.out 1).trans rfl⟩ (fun hHeld => ?_)
     clear hK K
     refine norm_ (a' := ?_) ?_ ?_
     rotate_left
     ·show Act.put _ (some 3) _ = _
      simp only [Act.put, List.setIfInBounds_toArray, List.set_cons_zero, List.set_cons_succ, i64_w, i32_w]
      rfl
     exact norm_ (by simp only [putAll, Act.put, List.setIfInBounds_toArray, List.set_cons_zero, List.set_cons_succ]) (hCont (.slice Ao11 t518.length co11, v522, v525, gb527) _ ⟨hHeld, (zmR HO520 (fun _ hk => ⟨hk.1.2, hk.2⟩)), (zmR HO523 (fun _ hk => ⟨hk.2, hk.1⟩)), (zmR HO526 (fun _ hk => ⟨hk.2, hk.1⟩)), (zK_ BK516), (zK_ BK527), GW527.out, GE527.out, NB516_527.out, NB527_516.out, (zB_ HB)⟩)
    skip
    refine box_step ?hg (N := 3) ?hd (cs := #[.slice none 0 0, .slice none 0 0]) (t := 25) ?hr ?_; (case hd => rfl); (case hg => rfl); (case hr => first | (go_simp; done) | (go_simp; rfl))
    intro gb527 hg w11 hbox hb
    replace HO520 := zR HO520 hb
    have BK527 := A0_ (hbox)
    have GW527 := zG hg HB; have GE527 := zG hg HB; replace HB := zB HB hb; have NB516_527 := zL hg BK516; have NB527_516 := zM hg BK516; replace BK516 := zK BK516 hb; clear hb hbox hg; obtain ⟨Ao12, co12, eo12⟩ := rS HO520.out
    (first | subst eo12 | (injection eo12 with f1_ f2_ f3_; have f4_ := f1_.symm; have f5_ := f3_.symm; clear f1_ f2_ f3_; subst f4_; subst f5_))
    refine hK.out _ _ ⟨(kC BK516.out 0).trans rfl, (kC BK516.out 1).trans rfl⟩ (fun hHeld => ?_)
    clear hK K
    refine norm_ (a' := ?_) ?_ ?_
    rotate_left
    ·show Act.put _ (some 3) _ = _
     simp only [Act.put, List.setIfInBounds_toArray, List.set_cons_zero, List.set_cons_succ, i64_w, i32_w]
     rfl
    refine one_ (i := 3) (N := some 12) #[true, true, true, true, true, false, false] rfl rfl (by kernel_rfl) (by decide) (fun K hK => ?_)
    refine goes_ Try.func83 (by kernel_rfl) rfl #[.agg #[.slice A0_0 l0_0.length c0_0, .slice A0_1 l0_1.length c0_1], .slice Ao12 t518.length co12] (by rfl) rfl rfl (by (try simp only [List.map_toArray, List.map_cons, List.map_nil]); first | done | rfl | (simp only [List.length_drop, List.length_take]; rfl)) ?_
    with_reducible refine (impl_renamed.calls k _ _ l0_0 _ _ l0_1 _ _ t518 t521 t524 _ ?side1 ?side2 ?side3 ?side4 ?side5 ?side6 A5.out).mono ?_
    (case side1 => exact zC HR0_0 HB)
    (case side2 => exact HC0_0.out)
    (case side3 => exact zC HR0_1 HB)
    (case side4 => exact HC0_1.out)
    (case side5 => exact zD HO520)
    (case side6 => exact (rR HO520.out).2.1)
    rintro e w13 ⟨v522, v525, rfl, ho0, ho1, hb⟩
    refine ⟨_, rfl, ?_⟩
    have HO523 := A0_ (rL (Kd.R_new' ho0 (rX (zR_ HO520))) (bZ (zB_ HB)))
    have HO526 := A0_ (rL (Kd.R_new' ho1 (rX (zR_ HO520))) (bZ (zB_ HB)))
    replace HO520 := A0_ (rM (rT (rT (rO (zR_ HO520) hb) (Kd.R_base ho0)) (Kd.R_base ho1)) (fun _ h_ => h_.1))
    replace BK516 := zK BK516 hb; replace BK527 := zK BK527 hb; replace HB := zB HB hb; (try clear hb); (try clear hb2); (try clear hk); (try clear hi); (try clear ho0); (try clear ho1)
    refine hK.out _ _ ⟨(kC BK516.out 0).trans rfl, (kC BK516.out 1).trans rfl⟩ (fun hHeld => ?_)
    clear hK K
    refine norm_ (a' := ?_) ?_ ?_
    rotate_left
    ·show Act.put _ (some 12) _ = _
     simp only [Act.put, List.setIfInBounds_toArray, List.set_cons_zero, List.set_cons_succ, i64_w, i32_w]
     rfl
    exact norm_ (by simp only [putAll, Act.put, List.setIfInBounds_toArray, List.set_cons_zero, List.set_cons_succ]) (hCont (.slice Ao12 t518.length co12, v522, v525, gb527) _ ⟨hHeld, (zmR HO520 (fun _ hk => ⟨hk.1.2, hk.2⟩)), (zmR HO523 (fun _ hk => ⟨hk.2, hk.1⟩)), (zmR HO526 (fun _ hk => ⟨hk.2, hk.1⟩)), (zK_ BK516), (zK_ BK527), GW527.out, GE527.out, NB516_527.out, NB527_516.out, (zB_ HB)⟩)
   skip
   refine box_step ?hg (N := 3) ?hd (cs := #[.slice none 0 0, .slice none 0 0]) (t := 25) ?hr ?_; (case hd => rfl); (case hg => rfl); (case hr => first | (go_simp; done) | (go_simp; rfl))
   intro gb527 hg w10 hbox hb
   have BK527 := A0_ (hbox)
   have GW527 := zG hg HB; have GE527 := zG hg HB; replace HB := zB HB hb; have NB516_527 := zL hg BK516; have NB527_516 := zM hg BK516; replace BK516 := zK BK516 hb; clear hb hbox hg
   refine hK.out _ _ ⟨(kC BK516.out 0).trans rfl, (kC BK516.out 1).trans rfl⟩ (fun hHeld => ?_)
   clear hK K
   refine norm_ (a' := ?_) ?_ ?_
   rotate_left
   ·show Act.put _ (some 3) _ = _
    simp only [Act.put, List.setIfInBounds_toArray, List.set_cons_zero, List.set_cons_succ, i64_w, i32_w]
    rfl
   refine one_ (i := 2) (N := some 11) #[true, true, true, false, true, false, false] rfl rfl (by kernel_rfl) (by decide) (fun K hK => ?_)
   refine goes_ Try.func61 (by kernel_rfl) rfl #[.agg #[.slice A0_0 l0_0.length c0_0, .slice A0_1 l0_1.length c0_1], .int .i64 0] (by rfl) rfl rfl (by (try simp only [List.map_toArray, List.map_cons, List.map_nil]); first | done | rfl | (simp only [List.length_drop, List.length_take]; rfl)) ?_
   with_reducible refine (impl_namesFrom.calls k _ _ l0_0 _ _ l0_1 0 t518 _ ?side1 ?side2 ?side3 ?side4 A4.out).mono ?_
   (case side1 => exact zC HR0_0 HB)
   (case side2 => exact HC0_0.out)
   (case side3 => exact zC HR0_1 HB)
   (case side4 => exact HC0_1.out)
   rintro e w11 ⟨v519, rfl, ho0, hb⟩
   refine ⟨_, rfl, ?_⟩
   have HO520 := A0_ (rL ho0 (bZ (zB_ HB)))
   replace BK516 := zK BK516 hb; replace BK527 := zK BK527 hb; replace HB := zB HB hb; (try clear hb); (try clear hb2); (try clear hk); (try clear hi); (try clear ho0); obtain ⟨Ao12, co12, eo12⟩ := rS HO520.out
   (first | subst eo12 | (injection eo12 with f1_ f2_ f3_; have f4_ := f1_.symm; have f5_ := f3_.symm; clear f1_ f2_ f3_; subst f4_; subst f5_))
   refine hK.out _ _ ⟨(kC BK516.out 0).trans rfl, (kC BK516.out 1).trans rfl⟩ (fun hHeld => ?_)
   clear hK K
   refine norm_ (a' := ?_) ?_ ?_
   rotate_left
   ·show Act.put _ (some 11) _ = _
    simp only [Act.put, List.setIfInBounds_toArray, List.set_cons_zero, List.set_cons_succ, i64_w, i32_w]
    rfl
   refine one_ (i := 3) (N := some 12) #[true, true, true, true, true, false, false] rfl rfl (by kernel_rfl) (by decide) (fun K hK => ?_)
   refine goes_ Try.func83 (by kernel_rfl) rfl #[.agg #[.slice A0_0 l0_0.length c0_0, .slice A0_1 l0_1.length c0_1], .slice Ao12 t518.length co12] (by rfl) rfl rfl (by (try simp only [List.map_toArray, List.map_cons, List.map_nil]); first | done | rfl | (simp only [List.length_drop, List.length_take]; rfl)) ?_
   with_reducible refine (impl_renamed.calls k _ _ l0_0 _ _ l0_1 _ _ t518 t521 t524 _ ?side1 ?side2 ?side3 ?side4 ?side5 ?side6 A5.out).mono ?_
   (case side1 => exact zC HR0_0 HB)
   (case side2 => exact HC0_0.out)
   (case side3 => exact zC HR0_1 HB)
   (case side4 => exact HC0_1.out)
   (case side5 => exact zD HO520)
   (case side6 => exact (rR HO520.out).2.1)
   rintro e w13 ⟨v522, v525, rfl, ho0, ho1, hb⟩
   refine ⟨_, rfl, ?_⟩
   have HO523 := A0_ (rL (Kd.R_new' ho0 (rX (zR_ HO520))) (bZ (zB_ HB)))
   have HO526 := A0_ (rL (Kd.R_new' ho1 (rX (zR_ HO520))) (bZ (zB_ HB)))
   replace HO520 := A0_ (rM (rT (rT (rO (zR_ HO520) hb) (Kd.R_base ho0)) (Kd.R_base ho1)) (fun _ h_ => h_.1))
   replace BK516 := zK BK516 hb; replace BK527 := zK BK527 hb; replace HB := zB HB hb; (try clear hb); (try clear hb2); (try clear hk); (try clear hi); (try clear ho0); (try clear ho1)
   refine hK.out _ _ ⟨(kC BK516.out 0).trans rfl, (kC BK516.out 1).trans rfl⟩ (fun hHeld => ?_)
   clear hK K
   refine norm_ (a' := ?_) ?_ ?_
   rotate_left
   ·show Act.put _ (some 12) _ = _
    simp only [Act.put, List.setIfInBounds_toArray, List.set_cons_zero, List.set_cons_succ, i64_w, i32_w]
    rfl
   exact norm_ (by simp only [putAll, Act.put, List.setIfInBounds_toArray, List.set_cons_zero, List.set_cons_succ]) (hCont (.slice Ao12 t518.length co12, v522, v525, gb527) _ ⟨hHeld, (zmR HO520 (fun _ hk => ⟨hk.1.2, hk.2⟩)), (zmR HO523 (fun _ hk => ⟨hk.2, hk.1⟩)), (zmR HO526 (fun _ hk => ⟨hk.2, hk.1⟩)), (zK_ BK516), (zK_ BK527), GW527.out, GE527.out, NB516_527.out, NB527_516.out, (zB_ HB)⟩)
  rintro ⟨v519, v522, v525, gb527⟩ w14 ⟨hS_, h0_, h1_, h2_, h3_, h4_, h5_, h6_, h7_, h8_, h9_⟩
  have HO520 : Aside0 (Kd.R (Kd.int .i64) 3 w14 w.heap.size (fun k_ => some k_ ≠ (v522 : Value).ownBlock ∧ some k_ ≠ (v525 : Value).ownBlock) v519 t518) := ⟨h0_⟩
  have HO523 : Aside0 (Kd.R (Kd.int .i64) 3 w14 w.heap.size (fun k_ => some k_ ≠ (v519 : Value).ownBlock ∧ some k_ ≠ (v525 : Value).ownBlock) v522 t521) := ⟨h1_⟩
  have HO526 : Aside0 (Kd.R (Kd.int .i64) 3 w14 w.heap.size (fun k_ => some k_ ≠ (v519 : Value).ownBlock ∧ some k_ ≠ (v522 : Value).ownBlock) v525 t524) := ⟨h2_⟩
  replace BK516 : Aside0 (w14.heap[gb516]? = some (.cells #[.slice A0_0 l0_0.length c0_0, .slice A0_1 l0_1.length c0_1] 25 (0, 0))) := ⟨h3_⟩
  have BK527 : Aside0 (w14.heap[gb527]? = some (.cells #[.slice none 0 0, .slice none 0 0] 25 (0, 0))) := ⟨h4_⟩
  have GW527 : Aside0 (w.heap.size ≤ gb527) := ⟨h5_⟩
  have GE527 : Aside0 (w.heap.size ≤ gb527) := ⟨h6_⟩
  have NB516_527 : Aside0 (gb516 ≠ gb527) := ⟨h7_⟩
  have NB527_516 : Aside0 (gb527 ≠ gb516) := ⟨h8_⟩
  replace HB : Aside0 (Below w.heap.size w w14) := ⟨h9_⟩
  clear h0_ h1_ h2_ h3_ h4_ h5_ h6_ h7_ h8_ h9_
  have hHeld : w14.cell? ⟨gb516, 0, none⟩ = some (.slice A0_0 l0_0.length c0_0) ∧ w14.cell? ⟨gb516, 1, none⟩ = some (.slice A0_1 l0_1.length c0_1) := hS_
  obtain ⟨Ao15, co15, eo15⟩ := rS HO523.out
  (first | subst eo15 | (injection eo15 with f1_ f2_ f3_; have f4_ := f1_.symm; have f5_ := f3_.symm; clear f1_ f2_ f3_; subst f4_; subst f5_))
  obtain ⟨Ao17, co17, eo17⟩ := rS HO526.out
  (first | subst eo17 | (injection eo17 with f1_ f2_ f3_; have f4_ := f1_.symm; have f5_ := f3_.symm; clear f1_ f2_ f3_; subst f4_; subst f5_))
  refine norm_ (a' := ?_) ?_ ?_
  rotate_left
  ·simp only [putAll, Act.put, List.setIfInBounds_toArray, List.set_cons_zero, List.set_cons_succ]
   rfl
  refine one_ (i := 5) (N := none) #[true, true, true, true, true, true, false] rfl rfl (by kernel_rfl) (by decide) (fun K hK => ?_)
  have hs16 : w14.cell? ⟨gb527, 0, none⟩ = some (.slice none 0 0) := (kC BK527.out 0).trans rfl
  have hfs16 := kF BK527.out 0; have hns16_0 := NB516_527.out; have hms16_0 := NB527_516.out
  have hs18 : w14.cell? ⟨gb527, 1, none⟩ = some (.slice none 0 0) := (kC BK527.out 1).trans rfl
  have hfs18 := kF BK527.out 1; have hns18_0 := NB516_527.out; have hms18_0 := NB527_516.out
  refine skip_ (w1 := ?_) (by rfl) rfl ?_ ?_
  rotate_left
  ·go_simp
   rfl
  refine hK.out _ _ ⟨((cell_far (p := ⟨gb527, _, none⟩) NB516_527.out _).trans (((cell_far (p := ⟨gb527, _, none⟩) NB516_527.out _).trans (hHeld.1)))), ((cell_far (p := ⟨gb527, _, none⟩) NB516_527.out _).trans (((cell_far (p := ⟨gb527, _, none⟩) NB516_527.out _).trans (hHeld.2))))⟩ (fun hHeld => ?_)
  clear hK K
  refine pure_ (i := 6) (N := some 4) (v := ?_) (a' := ?_) #[true, true, true, true, true, true, true] rfl rfl (by kernel_rfl) (fun _ _ _ h => h) (Or.inl ⟨by rfl, ?_⟩) ?_ ?_
  rotate_left
  ·intro w'
   go_simp
   with_reducible rfl
  rotate_left
  ·simp only [Act.put, List.setIfInBounds_toArray, List.set_cons_zero, List.set_cons_succ, i64_w, i32_w]
   rfl
  refine done_ (by kernel_rfl) ?_
  have hnb19 := NB516_527.out; have hnc19 := NB527_516.out; have hcz20_0 := zc0 BK516; have hcz20_1 := zc1 BK516; have hfz20_0 := kF BK516.out 0; have hfz20_1 := kF BK516.out 1
  try go_wp2
  go_loopg [4, 16] k (fun kq v4 v16 w' => ∃ (x4_1 : Int) (x16_1 : Int), v4 = .int .i64 x4_1 ∧ v16 = .int .i64 x16_1 ∧ Aside0 (impl_MapTurns.l0 kq x4_1 (l0_0.length : Int) x16_1 l0_0 l0_1 t521 t524 = some r) ∧ Aside0 (kq ≤ k) ∧ Aside0 (Kd.R (Kd.int .i64) 3 w' w.heap.size (fun k_ => some k_ ≠ ((.slice Ao17 t524.length co17) : Value).ownBlock) (.slice Ao15 t521.length co15) t521) ∧ Aside0 (Kd.R (Kd.int .i64) 3 w' w.heap.size (fun k_ => some k_ ≠ ((.slice Ao15 t521.length co15) : Value).ownBlock) (.slice Ao17 t524.length co17) t524) ∧ Aside0 (w'.heap[gb516]? = some (.cells #[(.slice A0_0 l0_0.length c0_0), (.slice A0_1 l0_1.length c0_1)] 25 (0, 0))) ∧ Aside0 (w'.heap[gb527]? = some (.cells #[(.slice Ao15 t521.length co15), (.slice Ao17 t524.length co17)] 25 (0, 0))) ∧ Aside0 (Below w.heap.size w w'))
  case atStart => exact ⟨(0), (0), zt, zt, H', ⟨Nat.le_refl _⟩, ⟨by (with_reducible repeat (first | apply rA | apply rN | apply rD)); exact rM (rF (p := ⟨gb527, 1, none⟩) (rF (p := ⟨gb527, 0, none⟩) (rY HO523.out BK527.out (by decide)) (fun _ hk => hk.2) (.slice Ao15 t521.length co15)) (fun _ hk => hk.2) (.slice Ao17 t524.length co17)) (fun _ hk => hk.1.2)⟩, ⟨by (with_reducible repeat (first | apply rA | apply rN | apply rD)); exact rM (rF (p := ⟨gb527, 1, none⟩) (rF (p := ⟨gb527, 0, none⟩) (rY HO526.out BK527.out (by decide)) (fun _ hk => hk.2) (.slice Ao15 t521.length co15)) (fun _ hk => hk.2) (.slice Ao17 t524.length co17)) (fun _ hk => hk.1.2)⟩, ⟨by (with_reducible repeat (first | refine kN ?_ _ | refine kD ?_ | refine kA ?_ _)); refine blk_far ?_ NB516_527.out _; (with_reducible repeat (first | refine kN ?_ _ | refine kD ?_ | refine kA ?_ _)); refine blk_far ?_ NB516_527.out _; (with_reducible repeat (first | refine kN ?_ _ | refine kD ?_ | refine kA ?_ _)); exact BK516.out⟩, ⟨by (with_reducible repeat (first | refine kN ?_ _ | refine kD ?_ | refine kA ?_ _)); refine blk_put (cs := #[.slice Ao15 t521.length co15, .slice none 0 0]) ?_ 1 _ rfl; (with_reducible repeat (first | refine kN ?_ _ | refine kD ?_ | refine kA ?_ _)); refine blk_put (cs := #[.slice none 0 0, .slice none 0 0]) ?_ 0 _ rfl; (with_reducible repeat (first | refine kN ?_ _ | refine kD ?_ | refine kA ?_ _)); exact BK527.out⟩, ⟨zB_ HB⟩⟩
  case round =>
   clear H'; (try clear c1); (try clear c2); (try clear p2); (try clear c3); (try clear c5); (try clear c6); (try clear c8); (try clear c19); (try clear hcz20_0); (try clear hcz20_1); (try clear hcz7_0); (try clear hcz7_1); (try clear hfz20_0); (try clear hfz20_1); (try clear hfz7_0); (try clear hfz7_1); obtain ⟨x4_1, x16_1, rfl, rfl, HA, HK1, HO_528000, HO_528001, BK516, BK527, HB⟩ := hrel
   cases gk with
   | zero => exact absurd HA.out (by simp [impl_MapTurns.l0])
   | succ k1 =>
    have H := HA.out; clear HA; simp only [impl_MapTurns.l0] at H
    by_cases c21 : x16_1 < (l0_0.length : Int)
    ·rw [if_pos c21] at H
     have c21b0 := dT c21; clear c21; obtain ⟨t528, A22, H⟩ := zbind H; obtain ⟨⟨t531, t534⟩, A23, H⟩ := zbind H; dsimp only at H; obtain ⟨t537, A24, H⟩ := zbind H
     by_cases c25 : t537 = 0
     ·rw [if_pos c25] at H
      have c25b0 : (t537 == 0) = true := beq_iff_eq.mpr c25
      have c25b1 : (t537 != 0) = false := bne_eq_false_iff_eq.mpr c25
      clear c25; have H' := A0_ H; clear H
      try go_wp2
      replace HO_528000 := A0_ (rD HO_528000.out)
      replace HO_528001 := A0_ (rD HO_528001.out)
      replace BK516 := A0_ (kD BK516.out)
      replace BK527 := A0_ (kD BK527.out)
      replace HB := A0_ (bD HB.out)
      refine start_ (n := 8) (S := fun w' => w'.cell? ⟨gb516, 0, none⟩ = some (.slice A0_0 l0_0.length c0_0) ∧ w'.cell? ⟨gb516, 1, none⟩ = some (.slice A0_1 l0_1.length c0_1) ∧ w'.cell? ⟨gb527, 0, none⟩ = some (.slice Ao15 t521.length co15) ∧ w'.cell? ⟨gb527, 1, none⟩ = some (.slice Ao17 t524.length co17)) (ds := []) #[false, false, false, false, false, false, false, false] (by kernel_rfl) rfl rfl ⟨(kC BK516.out 0).trans rfl, (kC BK516.out 1).trans rfl, (kC BK527.out 0).trans rfl, (kC BK527.out 1).trans rfl⟩ (fun hHeld => ?_); refine with_tabW impl_MapTurns.tab7 impl_MapTurns.bits7 (fun HT_ HW_ => ?_)
      generalize wr.drew = w26 at HO_528000 HO_528001 BK516 BK527 HB hHeld ⊢
      refine zP 2 (some 21) #[false,false,true,false,false,false,false,false] ?_
      refine take_ (i := 0) (N := some 19) (v := ?_) (a' := ?_) #[true, false, true, false, false, false, false, false] rfl rfl (take_ofW HT_.out HW_.out (by kernel_rfl)) (fun _ _ _ h => h) (Or.inl ⟨by rfl, ?_⟩) hHeld ?_ ?_
      rotate_left
      ·rintro w' ⟨s0, s1, s2, s3⟩
       go_simp
       with_reducible rfl
      rotate_left
      ·simp only [Act.put, List.setIfInBounds_toArray, List.set_cons_zero, List.set_cons_succ, i64_w, i32_w]
       rfl
      refine take_ (i := 1) (N := some 20) (v := ?_) (a' := ?_) #[true, true, true, false, false, false, false, false] rfl rfl (take_ofW HT_.out HW_.out (by kernel_rfl)) (fun _ _ _ h => h) (Or.inl ⟨by rfl, ?_⟩) hHeld ?_ ?_
      rotate_left
      ·rintro w' ⟨s0, s1, s2, s3⟩
       go_simp
       with_reducible rfl
      rotate_left
      ·simp only [Act.put, List.setIfInBounds_toArray, List.set_cons_zero, List.set_cons_succ, i64_w, i32_w]
       rfl
      refine take_ (i := 5) (N := some 24) (v := ?_) (a' := ?_) #[true, true, true, false, false, true, false, false] rfl rfl (take_ofW HT_.out HW_.out (by kernel_rfl)) (fun _ _ _ h => h) (Or.inl ⟨by rfl, ?_⟩) hHeld ?_ ?_
      rotate_left
      ·rintro w' ⟨s0, s1, s2, s3⟩
       go_simp
       with_reducible rfl
      rotate_left
      ·simp only [Act.put, List.setIfInBounds_toArray, List.set_cons_zero, List.set_cons_succ, i64_w, i32_w]
       rfl
      refine one_ (i := 3) (N := some 22) #[true, true, true, true, false, true, false, false] rfl rfl (one_of HT_.out (by kernel_rfl)) (by decide) (fun K hK => ?_)
      refine goes_ Try.func61 (by kernel_rfl) rfl #[.agg #[.slice A0_0 l0_0.length c0_0, .slice A0_1 l0_1.length c0_1], .int .i64 x16_1] (by rfl) rfl rfl (by (try simp only [List.map_toArray, List.map_cons, List.map_nil]); first | done | rfl | (simp only [List.length_drop, List.length_take]; rfl)) ?_
      with_reducible refine (impl_namesFrom.calls k1 _ _ l0_0 _ _ l0_1 x16_1 t528 _ ?side1 ?side2 ?side3 ?side4 A22.out).mono ?_
      (case side1 => exact zC HR0_0 HB)
      (case side2 => exact HC0_0.out)
      (case side3 => exact zC HR0_1 HB)
      (case side4 => exact HC0_1.out)
      rintro e w27 ⟨v529, rfl, ho0, hb⟩
      refine ⟨_, rfl, ?_⟩
      have HO530 := A0_ (rL (Kd.R_new' (Kd.R_new' ho0 (rX (zR_ HO_528000))) (rX (zR_ HO_528001))) (bZ (zB_ HB)))
      replace HO_528000 := A0_ (Kd.R_elder' (zR_ HO_528000) (Kd.R_base ho0) hb)
      replace HO_528001 := A0_ (Kd.R_elder' (zR_ HO_528001) (Kd.R_base ho0) hb)
      replace BK516 := zK BK516 hb; replace BK527 := zK BK527 hb; replace HB := zB HB hb; (try clear hb); (try clear hb2); (try clear hk); (try clear hi); (try clear ho0); obtain ⟨Ao28, co28, eo28⟩ := rS HO530.out
      (first | subst eo28 | (injection eo28 with f1_ f2_ f3_; have f4_ := f1_.symm; have f5_ := f3_.symm; clear f1_ f2_ f3_; subst f4_; subst f5_))
      refine hK.out _ _ ⟨(kC BK516.out 0).trans rfl, (kC BK516.out 1).trans rfl, (kC BK527.out 0).trans rfl, (kC BK527.out 1).trans rfl⟩ (fun hHeld => ?_)
      clear hK K
      refine norm_ (a' := ?_) ?_ ?_
      rotate_left
      ·show Act.put _ (some 22) _ = _
       simp only [Act.put, List.setIfInBounds_toArray, List.set_cons_zero, List.set_cons_succ, i64_w, i32_w]
       rfl
      refine one_ (i := 4) (N := some 23) #[true, true, true, true, true, true, false, false] rfl rfl (one_of HT_.out (by kernel_rfl)) (by decide) (fun K hK => ?_)
      refine goes_ Try.func83 (by kernel_rfl) rfl #[.agg #[.slice A0_0 l0_0.length c0_0, .slice A0_1 l0_1.length c0_1], .slice Ao28 t528.length co28] (by rfl) rfl rfl (by (try simp only [List.map_toArray, List.map_cons, List.map_nil]); first | done | rfl | (simp only [List.length_drop, List.length_take]; rfl)) ?_
      with_reducible refine (impl_renamed.calls k1 _ _ l0_0 _ _ l0_1 _ _ t528 t531 t534 _ ?side1 ?side2 ?side3 ?side4 ?side5 ?side6 A23.out).mono ?_
      (case side1 => exact zC HR0_0 HB)
      (case side2 => exact HC0_0.out)
      (case side3 => exact zC HR0_1 HB)
      (case side4 => exact HC0_1.out)
      (case side5 => exact zD HO530)
      (case side6 => exact (rR HO530.out).2.1)
      rintro e w29 ⟨v532, v535, rfl, ho0, ho1, hb⟩
      refine ⟨_, rfl, ?_⟩
      have HO533 := A0_ (rL (Kd.R_new' (Kd.R_new' (Kd.R_new' ho0 (rX (zR_ HO_528000))) (rX (zR_ HO_528001))) (rX (zR_ HO530))) (bZ (zB_ HB)))
      have HO536 := A0_ (rL (Kd.R_new' (Kd.R_new' (Kd.R_new' ho1 (rX (zR_ HO_528000))) (rX (zR_ HO_528001))) (rX (zR_ HO530))) (bZ (zB_ HB)))
      replace HO_528000 := A0_ (rM (rT (rT (rO (zR_ HO_528000) hb) (Kd.R_base ho0)) (Kd.R_base ho1)) (fun _ h_ => h_.1))
      replace HO_528001 := A0_ (rM (rT (rT (rO (zR_ HO_528001) hb) (Kd.R_base ho0)) (Kd.R_base ho1)) (fun _ h_ => h_.1))
      replace HO530 := A0_ (rM (rT (rT (rO (zR_ HO530) hb) (Kd.R_base ho0)) (Kd.R_base ho1)) (fun _ h_ => h_.1))
      replace BK516 := zK BK516 hb; replace BK527 := zK BK527 hb; replace HB := zB HB hb; (try clear hb); (try clear hb2); (try clear hk); (try clear hi); (try clear ho0); (try clear ho1); obtain ⟨Ao30, co30, eo30⟩ := rS HO533.out
      (first | subst eo30 | (injection eo30 with f1_ f2_ f3_; have f4_ := f1_.symm; have f5_ := f3_.symm; clear f1_ f2_ f3_; subst f4_; subst f5_))
      obtain ⟨Ao31, co31, eo31⟩ := rS HO536.out
      (first | subst eo31 | (injection eo31 with f1_ f2_ f3_; have f4_ := f1_.symm; have f5_ := f3_.symm; clear f1_ f2_ f3_; subst f4_; subst f5_))
      refine hK.out _ _ ⟨(kC BK516.out 0).trans rfl, (kC BK516.out 1).trans rfl, (kC BK527.out 0).trans rfl, (kC BK527.out 1).trans rfl⟩ (fun hHeld => ?_)
      clear hK K
      refine norm_ (a' := ?_) ?_ ?_
      rotate_left
      ·show Act.put _ (some 23) _ = _
       simp only [Act.put, List.setIfInBounds_toArray, List.set_cons_zero, List.set_cons_succ, i64_w, i32_w]
       rfl
      refine one_ (i := 6) (N := some 25) #[true, true, true, true, true, true, true, false] rfl rfl (one_of HT_.out (by kernel_rfl)) (by decide) (fun K hK => ?_)
      refine goes_ Try.func84 (by kernel_rfl) rfl #[.agg #[.slice Ao30 t531.length co30, .slice Ao31 t534.length co31], .agg #[.slice Ao15 t521.length co15, .slice Ao17 t524.length co17]] (by rfl) rfl rfl (by (try simp only [List.map_toArray, List.map_cons, List.map_nil]); first | done | rfl | (simp only [List.length_drop, List.length_take]; rfl)) ?_
      with_reducible refine (impl_compareMaps.calls k1 _ _ t531 _ _ t534 _ _ t521 _ _ t524 t537 _ ?side1 ?side2 ?side3 ?side4 ?side5 ?side6 ?side7 ?side8 A24.out).mono ?_
      (case side1 => exact zD HO533)
      (case side2 => exact (rR HO533.out).2.1)
      (case side3 => exact zD HO536)
      (case side4 => exact (rR HO536.out).2.1)
      (case side5 => exact zD HO_528000)
      (case side6 => exact (rR HO_528000.out).2.1)
      (case side7 => exact zD HO_528001)
      (case side8 => exact (rR HO_528001.out).2.1)
      rintro e w32 ⟨rfl, hb⟩
      refine ⟨_, rfl, ?_⟩
      replace HO_528000 := zR HO_528000 hb; replace HO_528001 := zR HO_528001 hb; replace HO530 := zR HO530 hb; replace HO533 := zR HO533 hb; replace HO536 := zR HO536 hb; replace BK516 := zK BK516 hb; replace BK527 := zK BK527 hb; replace HB := zB HB hb; (try clear hb); (try clear hb2); (try clear hk); (try clear hi)
      refine hK.out _ _ ⟨(kC BK516.out 0).trans rfl, (kC BK516.out 1).trans rfl, (kC BK527.out 0).trans rfl, (kC BK527.out 1).trans rfl⟩ (fun hHeld => ?_)
      clear hK K
      refine norm_ (a' := ?_) ?_ ?_
      rotate_left
      ·show Act.put _ (some 25) _ = _
       simp only [Act.put, List.setIfInBounds_toArray, List.set_cons_zero, List.set_cons_succ, i64_w, i32_w]
       rfl
      refine zP 7 (some 26) #[true,true,true,true,true,true,true,true] ?_
      refine done_ (done_of HT_.out (by kernel_rfl)) ?_
      try go_wp2
      go_roundg k1
      case measure => have := HK1.out; omega
      case rel => exact ⟨(wrap64 (x4_1 + 1)), (wrap64 (x16_1 + 1)), zt, zt, H', ⟨by have := HK1.out; omega⟩, ⟨zmR HO_528000 (fun _ hk => hk.1.1.1)⟩, ⟨zmR HO_528001 (fun _ hk => hk.1.1.1)⟩, ⟨zK_ BK516⟩, ⟨zK_ BK527⟩, ⟨zB_ HB⟩⟩
     rw [if_neg c25] at H
     have c25b0 : (t537 == 0) = false := beq_eq_false_iff_ne.mpr c25
     have c25b1 : (t537 != 0) = true := bne_iff_ne.mpr c25
     have H' := A0_ H; clear H
     try go_wp2
     replace HO_528000 := A0_ (rD HO_528000.out)
     replace HO_528001 := A0_ (rD HO_528001.out)
     replace BK516 := A0_ (kD BK516.out)
     replace BK527 := A0_ (kD BK527.out)
     replace HB := A0_ (bD HB.out)
     refine start_ (n := 8) (S := fun w' => w'.cell? ⟨gb516, 0, none⟩ = some (.slice A0_0 l0_0.length c0_0) ∧ w'.cell? ⟨gb516, 1, none⟩ = some (.slice A0_1 l0_1.length c0_1) ∧ w'.cell? ⟨gb527, 0, none⟩ = some (.slice Ao15 t521.length co15) ∧ w'.cell? ⟨gb527, 1, none⟩ = some (.slice Ao17 t524.length co17)) (ds := []) #[false, false, false, false, false, false, false, false] (by kernel_rfl) rfl rfl ⟨(kC BK516.out 0).trans rfl, (kC BK516.out 1).trans rfl, (kC BK527.out 0).trans rfl, (kC BK527.out 1).trans rfl⟩ (fun hHeld => ?_); refine with_tabW impl_MapTurns.tab7 impl_MapTurns.bits7 (fun HT_ HW_ => ?_)
     generalize wr.drew = w33 at HO_528000 HO_528001 BK516 BK527 HB hHeld ⊢
     refine zP 2 (some 21) #[false,false,true,false,false,false,false,false] ?_
     refine take_ (i := 0) (N := some 19) (v := ?_) (a' := ?_) #[true, false, true, false, false, false, false, false] rfl rfl (take_ofW HT_.out HW_.out (by kernel_rfl)) (fun _ _ _ h => h) (Or.inl ⟨by rfl, ?_⟩) hHeld ?_ ?_
     rotate_left
     ·rintro w' ⟨s0, s1, s2, s3⟩
      go_simp
      with_reducible rfl
     rotate_left
     ·simp only [Act.put, List.setIfInBounds_toArray, List.set_cons_zero, List.set_cons_succ, i64_w, i32_w]
      rfl
     refine take_ (i := 1) (N := some 20) (v := ?_) (a' := ?_) #[true, true, true, false, false, false, false, false] rfl rfl (take_ofW HT_.out HW_.out (by kernel_rfl)) (fun _ _ _ h => h) (Or.inl ⟨by rfl, ?_⟩) hHeld ?_ ?_
     rotate_left
     ·rintro w' ⟨s0, s1, s2, s3⟩
      go_simp
      with_reducible rfl
     rotate_left
     ·simp only [Act.put, List.setIfInBounds_toArray, List.set_cons_zero, List.set_cons_succ, i64_w, i32_w]
      rfl
     refine take_ (i := 5) (N := some 24) (v := ?_) (a' := ?_) #[true, true, true, false, false, true, false, false] rfl rfl (take_ofW HT_.out HW_.out (by kernel_rfl)) (fun _ _ _ h => h) (Or.inl ⟨by rfl, ?_⟩) hHeld ?_ ?_
     rotate_left
     ·rintro w' ⟨s0, s1, s2, s3⟩
      go_simp
      with_reducible rfl
     rotate_left
     ·simp only [Act.put, List.setIfInBounds_toArray, List.set_cons_zero, List.set_cons_succ, i64_w, i32_w]
      rfl
     refine one_ (i := 3) (N := some 22) #[true, true, true, true, false, true, false, false] rfl rfl (one_of HT_.out (by kernel_rfl)) (by decide) (fun K hK => ?_)
     refine goes_ Try.func61 (by kernel_rfl) rfl #[.agg #[.slice A0_0 l0_0.length c0_0, .slice A0_1 l0_1.length c0_1], .int .i64 x16_1] (by rfl) rfl rfl (by (try simp only [List.map_toArray, List.map_cons, List.map_nil]); first | done | rfl | (simp only [List.length_drop, List.length_take]; rfl)) ?_
     with_reducible refine (impl_namesFrom.calls k1 _ _ l0_0 _ _ l0_1 x16_1 t528 _ ?side1 ?side2 ?side3 ?side4 A22.out).mono ?_
     (case side1 => exact zC HR0_0 HB)
     (case side2 => exact HC0_0.out)
     (case side3 => exact zC HR0_1 HB)
     (case side4 => exact HC0_1.out)
     rintro e w34 ⟨v529, rfl, ho0, hb⟩
     refine ⟨_, rfl, ?_⟩
     have HO530 := A0_ (rL (Kd.R_new' (Kd.R_new' ho0 (rX (zR_ HO_528000))) (rX (zR_ HO_528001))) (bZ (zB_ HB)))
     replace HO_528000 := A0_ (Kd.R_elder' (zR_ HO_528000) (Kd.R_base ho0) hb)
     replace HO_528001 := A0_ (Kd.R_elder' (zR_ HO_528001) (Kd.R_base ho0) hb)
     replace BK516 := zK BK516 hb; replace BK527 := zK BK527 hb; replace HB := zB HB hb; (try clear hb); (try clear hb2); (try clear hk); (try clear hi); (try clear ho0); obtain ⟨Ao35, co35, eo35⟩ := rS HO530.out
     (first | subst eo35 | (injection eo35 with f1_ f2_ f3_; have f4_ := f1_.symm; have f5_ := f3_.symm; clear f1_ f2_ f3_; subst f4_; subst f5_))
     refine hK.out _ _ ⟨(kC BK516.out 0).trans rfl, (kC BK516.out 1).trans rfl, (kC BK527.out 0).trans rfl, (kC BK527.out 1).trans rfl⟩ (fun hHeld => ?_)
     clear hK K
     refine norm_ (a' := ?_) ?_ ?_
     rotate_left
     ·show Act.put _ (some 22) _ = _
      simp only [Act.put, List.setIfInBounds_toArray, List.set_cons_zero, List.set_cons_succ, i64_w, i32_w]
      rfl
     refine one_ (i := 4) (N := some 23) #[true, true, true, true, true, true, false, false] rfl rfl (one_of HT_.out (by kernel_rfl)) (by decide) (fun K hK => ?_)
     refine goes_ Try.func83 (by kernel_rfl) rfl #[.agg #[.slice A0_0 l0_0.length c0_0, .slice A0_1 l0_1.length c0_1], .slice Ao35 t528.length co35] (by rfl) rfl rfl (by (try simp only [List.map_toArray, List.map_cons, List.map_nil]); first | done | rfl | (simp only [List.length_drop, List.length_take]; rfl)) ?_
     with_reducible refine (impl_renamed.calls k1 _ _ l0_0 _ _ l0_1 _ _ t528 t531 t534 _ ?side1 ?side2 ?side3 ?side4 ?side5 ?side6 A23.out).mono ?_
     (case side1 => exact zC HR0_0 HB)
     (case side2 => exact HC0_0.out)
     (case side3 => exact zC HR0_1 HB)
     (case side4 => exact HC0_1.out)
     (case side5 => exact zD HO530)
     (case side6 => exact (rR HO530.out).2.1)
     rintro e w36 ⟨v532, v535, rfl, ho0, ho1, hb⟩
     refine ⟨_, rfl, ?_⟩
     have HO533 := A0_ (rL (Kd.R_new' (Kd.R_new' (Kd.R_new' ho0 (rX (zR_ HO_528000))) (rX (zR_ HO_528001))) (rX (zR_ HO530))) (bZ (zB_ HB)))
     have HO536 := A0_ (rL (Kd.R_new' (Kd.R_new' (Kd.R_new' ho1 (rX (zR_ HO_528000))) (rX (zR_ HO_528001))) (rX (zR_ HO530))) (bZ (zB_ HB)))
     replace HO_528000 := A0_ (rM (rT (rT (rO (zR_ HO_528000) hb) (Kd.R_base ho0)) (Kd.R_base ho1)) (fun _ h_ => h_.1))
     replace HO_528001 := A0_ (rM (rT (rT (rO (zR_ HO_528001) hb) (Kd.R_base ho0)) (Kd.R_base ho1)) (fun _ h_ => h_.1))
     replace HO530 := A0_ (rM (rT (rT (rO (zR_ HO530) hb) (Kd.R_base ho0)) (Kd.R_base ho1)) (fun _ h_ => h_.1))
     replace BK516 := zK BK516 hb; replace BK527 := zK BK527 hb; replace HB := zB HB hb; (try clear hb); (try clear hb2); (try clear hk); (try clear hi); (try clear ho0); (try clear ho1); obtain ⟨Ao37, co37, eo37⟩ := rS HO533.out
     (first | subst eo37 | (injection eo37 with f1_ f2_ f3_; have f4_ := f1_.symm; have f5_ := f3_.symm; clear f1_ f2_ f3_; subst f4_; subst f5_))
     obtain ⟨Ao38, co38, eo38⟩ := rS HO536.out
     (first | subst eo38 | (injection eo38 with f1_ f2_ f3_; have f4_ := f1_.symm; have f5_ := f3_.symm; clear f1_ f2_ f3_; subst f4_; subst f5_))
     refine hK.out _ _ ⟨(kC BK516.out 0).trans rfl, (kC BK516.out 1).trans rfl, (kC BK527.out 0).trans rfl, (kC BK527.out 1).trans rfl⟩ (fun hHeld => ?_)
     clear hK K
     refine norm_ (a' := ?_) ?_ ?_
     rotate_left
     ·show Act.put _ (some 23) _ = _
      simp only [Act.put, List.setIfInBounds_toArray, List.set_cons_zero, List.set_cons_succ, i64_w, i32_w]
      rfl
     refine one_ (i := 6) (N := some 25) #[true, true, true, true, true, true, true, false] rfl rfl (one_of HT_.out (by kernel_rfl)) (by decide) (fun K hK => ?_)
     refine goes_ Try.func84 (by kernel_rfl) rfl #[.agg #[.slice Ao37 t531.length co37, .slice Ao38 t534.length co38], .agg #[.slice Ao15 t521.length co15, .slice Ao17 t524.length co17]] (by rfl) rfl rfl (by (try simp only [List.map_toArray, List.map_cons, List.map_nil]); first | done | rfl | (simp only [List.length_drop, List.length_take]; rfl)) ?_
     with_reducible refine (impl_compareMaps.calls k1 _ _ t531 _ _ t534 _ _ t521 _ _ t524 t537 _ ?side1 ?side2 ?side3 ?side4 ?side5 ?side6 ?side7 ?side8 A24.out).mono ?_
     (case side1 => exact zD HO533)
     (case side2 => exact (rR HO533.out).2.1)
     (case side3 => exact zD HO536)
     (case side4 => exact (rR HO536.out).2.1)
     (case side5 => exact zD HO_528000)
     (case side6 => exact (rR HO_528000.out).2.1)
     (case side7 => exact zD HO_528001)
     (case side8 => exact (rR HO_528001.out).2.1)
     rintro e w39 ⟨rfl, hb⟩
     refine ⟨_, rfl, ?_⟩
     replace HO_528000 := zR HO_528000 hb; replace HO_528001 := zR HO_528001 hb; replace HO530 := zR HO530 hb; replace HO533 := zR HO533 hb; replace HO536 := zR HO536 hb; replace BK516 := zK BK516 hb; replace BK527 := zK BK527 hb; replace HB := zB HB hb; (try clear hb); (try clear hb2); (try clear hk); (try clear hi)
     refine hK.out _ _ ⟨(kC BK516.out 0).trans rfl, (kC BK516.out 1).trans rfl, (kC BK527.out 0).trans rfl, (kC BK527.out 1).trans rfl⟩ (fun hHeld => ?_)
     clear hK K
     refine norm_ (a' := ?_) ?_ ?_
     rotate_left
     ·show Act.put _ (some 25) _ = _
      simp only [Act.put, List.setIfInBounds_toArray, List.set_cons_zero, List.set_cons_succ, i64_w, i32_w]
      rfl
     refine zP 7 (some 26) #[true,true,true,true,true,true,true,true] ?_
     refine done_ (done_of HT_.out (by kernel_rfl)) ?_
     try go_wp2
     go_roundg k1
     case measure => have := HK1.out; omega
     case rel => exact ⟨(x4_1), (wrap64 (x16_1 + 1)), zt, zt, H', ⟨by have := HK1.out; omega⟩, ⟨zmR HO_528000 (fun _ hk => hk.1.1.1)⟩, ⟨zmR HO_528001 (fun _ hk => hk.1.1.1)⟩, ⟨zK_ BK516⟩, ⟨zK_ BK527⟩, ⟨zB_ HB⟩⟩
    rw [if_neg c21] at H; have c21b0 := dF c21; clear c21; obtain rfl := sI H
    go_wp2
    go_ret
    exact ⟨by first | rfl | (simp [*] <;> rfl), zB_ HB⟩
 replace c3 := Bool.eq_false_iff.mpr c3; subst c3
 rw [if_neg (show ¬ (false = true) by decide)] at H
 obtain rfl := sI H
 go_enter Try.func29, Try.ntmps29
 go_wp2_with (first | ((with_reducible refine gD (N := 1) rfl ?_); refine zX (N := 1) (cs := #[.slice A0_0 l0_0.length c0_0, .slice A0_1 l0_1.length c0_1]) (t := 25) ?_; intro gb516 hg w40 hbox hb; have BK516 := A0_ (hbox); have GW516 := zG hg HB; have GE516 := zG hg HB; replace HB := zB HB hb; clear hb hbox hg; have hcz41_0 := zc0 BK516; have hcz41_1 := zc1 BK516; have hfz41_0 := kF BK516.out 0; have hfz41_1 := kF BK516.out 1) | ((with_reducible refine gC (f := 54) rfl ?_); refine zJ (some 7) Try.func54 #[.agg #[.slice A0_0 l0_0.length c0_0, .slice A0_1 l0_1.length c0_1]] ?_; (with_reducible refine (impl_MapValid.calls k (fun k_ => k_ < w.heap.size) _ _ l0_0 (fun k_ => k_ < w.heap.size) _ _ l0_1 false _ ?side1 ?side2 A2.out).mono ?_); (case side1 => exact Kd.V_mk HC0_0.out (Kd.F_below (Kd.C_F (Kd.heap_int .i64) HR0_0.out) (zB_ HB))); (case side2 => exact Kd.V_mk HC0_1.out (Kd.F_below (Kd.C_F (Kd.heap_int .i64) HR0_1.out) (zB_ HB))); rintro e w42 ⟨rfl, hb⟩; refine ⟨_, rfl, ?_⟩; replace BK516 := zK BK516 hb; replace HB := zB HB hb; (try clear hb)))
 go_ret
 exact ⟨by first | rfl | (simp [*] <;> rfl), zB_ HB⟩

end Go.Proofs.Ytmegggomhjgehaa.PFnDeck
