-- Made by a program of this session (wip/tools) out of the loaded program; not trusted: Lean checks it.
import Derived.Test.YtmegggomhjgehaaPFnWindingx0
import Derived.Test.YtmegggomhjgehaaPFnWindingx2
import Derived.Test.YtmegggomhjgehaaPFnWindingx5
import Derived.Test.YtmegggomhjgehaaPFnWindingx6
import Derived.Test.YtmegggomhjgehaaPFnWindingx9
import Derived.Test.YtmegggomhjgehaaPFnWindingx10
import Derived.Test.YtmegggomhjgehaaPFnWindingx11
-- packed
namespace Go.Proofs.Ytmegggomhjgehaa.PFnWinding
open Go.RowKit Go.Proofs.YtmegggomhjgehaaW.PrintWords Go.Proofs.YtmegggomhjgehaaW.PrintLast Go.Proofs.YtmegggomhjgehaaW.PrintMore
attribute [local go_sem] max2_int min2_int max_two min_two max_three min_three max_four min_four   -- for this text's walks alone
set_option linter.unusedVariables false
set_option linter.unusedSimpArgs false

/-! ### spec_l9Winding: function 73 -/
def spec_l9Winding.l0 : Nat → List (List Int) → List Int → List Int → Int → List Int → List Int → Option (List Int)
  | 0, _, _, _, _, _, _ => none
  | k + 1, x2, x3, x9, x10, x474000, x474001 => if x10 < (x3.length : Int) then (if 0 ≤ x10 then ((spec_l9Volt.f k x474000 x474001 x2 (rd x3 x10)).bind fun t478 => ((spec_l1Mul.f k x9 t478).bind fun t481 => (spec_l9Winding.l0 k x2 x3 t481 (wrap64 (x10 + 1)) x474000 x474001))) else (none)) else (some x9)
def spec_l9Winding.f (k : Nat) (l0_0 : List Int) (l0_1 : List Int) (a1 : Int) (l2 : List (List Int)) (l3 : List Int) : Option (List Int) := (spec_l1Same.f k a1).bind fun t474 => (spec_l9Winding.l0 k l2 l3 t474 0 l0_0 l0_1)
def spec_l9Winding.T5 : Bool × List (List Nat × List Nat) := (true, [([], []), ([], []), ([], []), ([], []), ([], []), ([3, 4], [3, 4]), ([5], [5]), ([1, 2, 6], [1, 2, 6]), ([0, 7, 7], [0, 7]), ([8, 8, 0, 1, 2, 3, 4, 5, 6, 7, 8], [0, 8])])
def spec_l9Winding.B5 : List Nat := [0, 0, 0, 0, 0, 24, 56, 126, 255, 511]
theorem spec_l9Winding.tab5 : rtab .any (opsOf Try.f73 5) = spec_l9Winding.T5 := by kernel_rfl
theorem spec_l9Winding.bits5 : waitsOk spec_l9Winding.T5.2 spec_l9Winding.B5 = true := by kernel_rfl
set_option maxHeartbeats 8000000 in
set_option maxRecDepth 100000 in
theorem spec_l9Winding.calls (k : Nat) (A0_0 : Option Addr) (c0_0 : Nat) (l0_0 : List Int) (A0_1 : Option Addr) (c0_1 : Nat) (l0_1 : List Int) (a1 : Int) (A2 : Option Addr) (c2 : Nat) (l2 : List (List Int)) (A3 : Option Addr) (c3 : Nat) (l3 : List Int) (r : List Int) (w : World) (hr0_0 : Kd.C (Kd.int .i64) w A0_0 l0_0.length l0_0) (hc0_0 : l0_0.length ≤ c0_0) (hr0_1 : Kd.C (Kd.int .i64) w A0_1 l0_1.length l0_1) (hc0_1 : l0_1.length ≤ c0_1) (hr2 : Kd.C (Kd.slice 3 (Kd.int .i64)) w A2 l2.length l2) (hc2 : l2.length ≤ c2) (hr3 : Kd.C (Kd.int .i64) w A3 l3.length l3) (hc3 : l3.length ≤ c3) (h : spec_l9Winding.f k l0_0 l0_1 a1 l2 l3 = some r) :
    Calls Try.prog 73 #[.agg #[.slice A0_0 l0_0.length c0_0, .slice A0_1 l0_1.length c0_1], .int .i64 a1, .slice A2 l2.length c2, .slice A3 l3.length c3] w fun e w' => ∃ v0_ : Value, e = .returned (v0_) ∧ Kd.R (Kd.int .i64) 3 w' w.heap.size (fun _ => True) v0_ r ∧ Below w.heap.size w w' := by
 have hu25 := Try.underlying25; have HR0_0 := A0_ hr0_0; have HC0_0 := A0_ hc0_0; clear hr0_0 hc0_0; have HR0_1 := A0_ hr0_1; have HC0_1 := A0_ hc0_1; clear hr0_1 hc0_1; have HR2 := A0_ hr2; have HC2 := A0_ hc2; clear hr2 hc2; have HR3 := A0_ hr3; have HC3 := A0_ hc3; clear hr3 hc3
 have HB := A0_ (Below.refl w.heap.size w)
 have H : ((spec_l1Same.f k a1).bind fun t474 => (spec_l9Winding.l0 k l2 l3 t474 0 l0_0 l0_1)) = some r := h
 clear h; obtain ⟨t474, A5, H⟩ := zbind H; have H' := A0_ H; clear H
 go_enter Try.func73, Try.ntmps73
 go_wp2_with (first | ((with_reducible refine gD (N := 4) rfl ?_); refine zX (N := 4) (cs := #[.slice A0_0 l0_0.length c0_0, .slice A0_1 l0_1.length c0_1]) (t := 25) ?_; intro gb473 hg w6 hbox hb; have BK473 := A0_ (hbox); have GW473 := zG hg HB; have GE473 := zG hg HB; replace HB := zB HB hb; clear hb hbox hg) | ((with_reducible refine gC (f := 79) rfl ?_); refine zJ (some 12) Try.func79 #[.int .i64 a1] ?_; (with_reducible refine (spec_l1Same.calls k a1 t474 _ A5.out).mono ?_); rintro e w7 ⟨v475, rfl, ho0, hb⟩; refine ⟨_, rfl, ?_⟩; have HO476 := A0_ (rL ho0 (bZ (zB_ HB))); replace BK473 := zK BK473 hb; replace HB := zB HB hb; (try clear hb); (try clear ho0)))
 go_loopg [9, 10] k (fun kq v9 v10 w' => ∃ (x9_1 : List Int) (x10_1 : Int), v10 = .int .i64 x10_1 ∧ Aside0 (spec_l9Winding.l0 kq l2 l3 x9_1 x10_1 l0_0 l0_1 = some r) ∧ Aside0 (kq ≤ k) ∧ Aside0 (Kd.R (Kd.int .i64) 3 w' w.heap.size (fun _ => True) v9 x9_1) ∧ Aside0 (w'.heap[gb473]? = some (.cells #[(.slice A0_0 l0_0.length c0_0), (.slice A0_1 l0_1.length c0_1)] 25 (0, 0))) ∧ Aside0 (Below w.heap.size w w'))
 case atStart => exact ⟨(t474), (0), zt, H', ⟨Nat.le_refl _⟩, ⟨zR_ HO476⟩, ⟨zK_ BK473⟩, ⟨zB_ HB⟩⟩
 case round =>
  clear H'; (try clear c2); (try clear p2); (try clear c3); (try clear c7); obtain ⟨x9_1, x10_1, rfl, HA, HK1, HO_9, BK473, HB⟩ := hrel
  cases gk with
  | zero => exact absurd HA.out (by simp [spec_l9Winding.l0])
  | succ k1 =>
   have H := HA.out; clear HA; simp only [spec_l9Winding.l0] at H
   by_cases c8 : x10_1 < (l3.length : Int)
   ·rw [if_pos c8] at H
    have c8b0 := dT c8; clear c8
    by_cases c9 : 0 ≤ x10_1
    ·rw [if_pos c9] at H
     have c9b0 := dT c9; clear c9; obtain ⟨t478, A10, H⟩ := zbind H; obtain ⟨t481, A11, H⟩ := zbind H; have H' := A0_ H; clear H
     try go_wp2
     replace HO_9 := A0_ (rD HO_9.out)
     replace BK473 := A0_ (kD BK473.out)
     replace HB := A0_ (bD HB.out)
     have p477 : 0 ≤ (x10_1 : Int) := zd
     have q477 : x10_1 < (l3.length : Int) := zd
     obtain ⟨ad477, e477, hx477_0⟩ := tI HR3.out x10_1 p477 q477; have hw477_0 := hx477_0
     cases e477
     try replace hx477_0 := (HB.out.cell (wL w _ hx477_0)).trans hx477_0
     replace p477 := eq_true p477; replace q477 := eq_true q477
     refine start_ (n := 10) (S := fun w' => w'.cell? ⟨gb473, 0, none⟩ = some (.slice A0_0 l0_0.length c0_0) ∧ w'.cell? ⟨gb473, 1, none⟩ = some (.slice A0_1 l0_1.length c0_1) ∧ w'.cell? (ad477.add (x10_1).toNat) = some (.int .i64 (rd l3 x10_1))) (ds := []) #[false, false, false, false, false, false, false, false, false, false] (by kernel_rfl) rfl rfl ⟨(kC BK473.out 0).trans rfl, (kC BK473.out 1).trans rfl, ((HB.out.cell (wL w _ hw477_0)).trans hw477_0)⟩ (fun hHeld => ?_); refine with_tabW spec_l9Winding.tab5 spec_l9Winding.bits5 (fun HT_ HW_ => ?_)
     generalize wr.drew = w12 at HO_9 BK473 HB hx477_0 hHeld ⊢
     refine zP 0 (some 19) #[true,false,false,false,false,false,false,false,false,false] ?_
     refine zP 2 (some 21) #[true,false,true,false,false,false,false,false,false,false] ?_
     refine zP 3 (some 22) #[true,false,true,true,false,false,false,false,false,false] ?_
     refine zP 4 (some 23) #[true,false,true,true,true,false,false,false,false,false] ?_
     refine zP 5 (some 24) #[true,false,true,true,true,true,false,false,false,false] ?_
     refine take_ (i := 1) (N := some 20) (v := ?_) (a' := ?_) #[true, true, true, true, true, true, false, false, false, false] rfl rfl (take_ofW HT_.out HW_.out (by kernel_rfl)) (fun _ _ _ h => h) (Or.inl ⟨by rfl, ?_⟩) hHeld ?_ ?_
     rotate_left
     ·rintro w' ⟨s0, s1, s2⟩
      go_simp
      with_reducible rfl
     rotate_left
     ·simp only [Act.put, List.setIfInBounds_toArray, List.set_cons_zero, List.set_cons_succ, i64_w, i32_w]
      rfl
     refine take_ (i := 6) (N := some 25) (v := ?_) (a' := ?_) #[true, true, true, true, true, true, true, false, false, false] rfl rfl (take_ofW HT_.out HW_.out (by kernel_rfl)) (fun _ _ _ h => h) (Or.inl ⟨by rfl, ?_⟩) hHeld ?_ ?_
     rotate_left
     ·rintro w' ⟨s0, s1, s2⟩
      go_simp
      with_reducible rfl
     rotate_left
     ·simp only [Act.put, List.setIfInBounds_toArray, List.set_cons_zero, List.set_cons_succ, i64_w, i32_w]
      rfl
     refine one_ (i := 7) (N := some 26) #[true, true, true, true, true, true, true, true, false, false] rfl rfl (one_of HT_.out (by kernel_rfl)) (by decide) (fun K hK => ?_)
     refine goes_ Try.func96 (by kernel_rfl) rfl #[.agg #[.slice A0_0 l0_0.length c0_0, .slice A0_1 l0_1.length c0_1], .slice A2 l2.length c2, .int .i64 (rd l3 x10_1)] (by rfl) rfl rfl (by (try simp only [List.map_toArray, List.map_cons, List.map_nil]); first | done | rfl | (simp only [List.length_drop, List.length_take]; rfl)) ?_
     with_reducible refine (spec_l9Volt.calls k1 _ _ l0_0 _ _ l0_1 (fun k_ => k_ < w.heap.size) _ _ l2 (rd l3 x10_1) t478 _ ?side1 ?side2 ?side3 ?side4 ?side5 A10.out).mono ?_
     (case side1 => exact zC HR0_0 HB)
     (case side2 => exact HC0_0.out)
     (case side3 => exact zC HR0_1 HB)
     (case side4 => exact HC0_1.out)
     (case side5 => exact Kd.V_mk HC2.out (Kd.F_below (Kd.C_F (Kd.heap_slice 3 (Kd.heap_int .i64)) HR2.out) (zB_ HB)))
     rintro e w13 ⟨v479, rfl, ho0, hb⟩
     refine ⟨_, rfl, ?_⟩
     have HO480 := A0_ (Kd.V_lower (Kd.V_mono (ok' := fun k_ => some k_ ≠ (u9 : Value).ownBlock ∧ k_ ≠ gb473) ho0 (fun k_ hk_ => ⟨Or.elim hk_ (fun hs_ => fun e_ => Nat.not_le.2 hs_ (Kd.R_base HO_9.out k_ e_.symm)) (fun hn_ => (Kd.fresh' (rX (zR_ HO_9)) k_ hn_)), Or.elim hk_ (fun hs_ => fun e_ => Nat.not_le.2 hs_ (by rw [e_]; exact GW473.out)) (fun hn_ => (Kd.freshB (g := gb473) (o := .cells #[.slice A0_0 l0_0.length c0_0, .slice A0_1 l0_1.length c0_1] 25 (0, 0)) (zK_ BK473) k_ hn_))⟩)) (bZ (zB_ HB)))
     replace HO_9 := zR HO_9 hb; replace BK473 := zK BK473 hb; replace HB := zB HB hb; (try clear hb); (try clear hb2); (try clear hk); (try clear hi); (try clear ho0); obtain ⟨Ao14, co14, eo14⟩ := rS HO_9.out
     (first | subst eo14 | (injection eo14 with f1_ f2_ f3_; have f4_ := f1_.symm; have f5_ := f3_.symm; clear f1_ f2_ f3_; subst f4_; subst f5_))
     obtain ⟨Ao15, co15, eo15⟩ := Kd.V_slice HO480.out
     (first | subst eo15 | (injection eo15 with f1_ f2_ f3_; have f4_ := f1_.symm; have f5_ := f3_.symm; clear f1_ f2_ f3_; subst f4_; subst f5_))
     refine hK.out _ _ ⟨(kC BK473.out 0).trans rfl, (kC BK473.out 1).trans rfl, ((HB.out.cell (wL w _ hw477_0)).trans hw477_0)⟩ (fun hHeld => ?_)
     clear hK K
     refine norm_ (a' := ?_) ?_ ?_
     rotate_left
     ·show Act.put _ (some 26) _ = _
      simp only [Act.put, List.setIfInBounds_toArray, List.set_cons_zero, List.set_cons_succ, i64_w, i32_w]
      rfl
     refine one_ (i := 8) (N := some 27) #[true, true, true, true, true, true, true, true, true, false] rfl rfl (one_of HT_.out (by kernel_rfl)) (by decide) (fun K hK => ?_)
     refine goes_ Try.func82 (by kernel_rfl) rfl #[.slice Ao14 x9_1.length co14, .slice Ao15 t478.length co15] (by rfl) rfl rfl (by (try simp only [List.map_toArray, List.map_cons, List.map_nil]); first | done | rfl | (simp only [List.length_drop, List.length_take]; rfl)) ?_
     with_reducible refine (spec_l1Mul.calls k1 _ _ x9_1 _ _ t478 t481 _ ?side1 ?side2 ?side3 ?side4 A11.out).mono ?_
     (case side1 => exact zD HO_9)
     (case side2 => exact (rR HO_9.out).2.1)
     (case side3 => repeat (first | exact (Kd.V_reads' HO480.out).2.2 | (with_reducible refine cA ?_ _) | (with_reducible refine cN ?_ _) | (with_reducible refine cD ?_)))
     (case side4 => exact (Kd.V_reads' HO480.out).2.1)
     rintro e w16 ⟨v482, rfl, ho0, hb⟩
     refine ⟨_, rfl, ?_⟩
     replace HO480 := A0_ (Kd.V_elder' (by (with_reducible repeat (first | apply Kd.V_alloc | apply Kd.V_drewN | apply Kd.V_drew)); exact HO480.out) (Kd.R_base ho0) hb)
     have HO483 := A0_ (rL (Kd.R_new' ho0 (rX (zR_ HO_9))) (bZ (zB_ HB)))
     replace HO_9 := A0_ (Kd.R_elder' (zR_ HO_9) (Kd.R_base ho0) hb)
     replace BK473 := zK BK473 hb; replace HB := zB HB hb; (try clear hb); (try clear hb2); (try clear hk); (try clear hi); (try clear ho0)
     refine hK.out _ _ ⟨(kC BK473.out 0).trans rfl, (kC BK473.out 1).trans rfl, ((HB.out.cell (wL w _ hw477_0)).trans hw477_0)⟩ (fun hHeld => ?_)
     clear hK K
     refine norm_ (a' := ?_) ?_ ?_
     rotate_left
     ·show Act.put _ (some 27) _ = _
      simp only [Act.put, List.setIfInBounds_toArray, List.set_cons_zero, List.set_cons_succ, i64_w, i32_w]
      rfl
     refine zP 9 (some 9) #[true,true,true,true,true,true,true,true,true,true] ?_
     refine done_ (done_of HT_.out (by kernel_rfl)) ?_
     try go_wp2
     go_roundg k1
     case measure => have := HK1.out; omega
     case rel => exact ⟨(t481), (wrap64 (x10_1 + 1)), zt, H', ⟨by have := HK1.out; omega⟩, ⟨zmR HO483 (fun _ hk => trivial)⟩, ⟨zK_ BK473⟩, ⟨zB_ HB⟩⟩
    rw [if_neg c9] at H
    exact absurd H (by simp)
   rw [if_neg c8] at H; have c8b0 := dF c8; clear c8; obtain rfl := sI H
   go_wp2
   go_ret
   exact ⟨_, by first | rfl | (simp [*] <;> rfl), zR_ HO_9, zB_ HB⟩

/-! ### spec_l2Dart: function 88 -/
def spec_l2Dart.f (k : Nat) (l0_0 : List Int) (l0_1 : List Int) (a1 : Int) : Option (Bool) := (spec_MapValid.f k l0_0 l0_1).bind fun t485 => (if t485 = true then ((spec_l6In.f a1 0 (wrap64 ((l0_0.length : Int) - 1))).bind fun t486 => (some t486)) else (some false))
set_option maxHeartbeats 8000000 in
set_option maxRecDepth 100000 in
theorem spec_l2Dart.calls (k : Nat) (A0_0 : Option Addr) (c0_0 : Nat) (l0_0 : List Int) (A0_1 : Option Addr) (c0_1 : Nat) (l0_1 : List Int) (a1 : Int) (r : Bool) (w : World) (hr0_0 : Kd.C (Kd.int .i64) w A0_0 l0_0.length l0_0) (hc0_0 : l0_0.length ≤ c0_0) (hr0_1 : Kd.C (Kd.int .i64) w A0_1 l0_1.length l0_1) (hc0_1 : l0_1.length ≤ c0_1) (h : spec_l2Dart.f k l0_0 l0_1 a1 = some r) :
    Calls Try.prog 88 #[.agg #[.slice A0_0 l0_0.length c0_0, .slice A0_1 l0_1.length c0_1], .int .i64 a1] w fun e w' => e = .returned (.bool r) ∧ Below w.heap.size w w' := by
 have hu25 := Try.underlying25; have HR0_0 := A0_ hr0_0; have HC0_0 := A0_ hc0_0; clear hr0_0 hc0_0; have HR0_1 := A0_ hr0_1; have HC0_1 := A0_ hc0_1; clear hr0_1 hc0_1
 have HB := A0_ (Below.refl w.heap.size w)
 have H : ((spec_MapValid.f k l0_0 l0_1).bind fun t485 => (if t485 = true then ((spec_l6In.f a1 0 (wrap64 ((l0_0.length : Int) - 1))).bind fun t486 => (some t486)) else (some false))) = some r := h
 clear h; obtain ⟨t485, A3, H⟩ := zbind H
 by_cases c4 : t485 = true
 ·subst c4
  rw [if_pos rfl] at H; obtain ⟨t486, A5, H⟩ := zbind H; obtain rfl := sI H
  go_enter Try.func88, Try.ntmps88
  go_wp2_with (first | ((with_reducible refine gD (N := 2) rfl ?_); refine zX (N := 2) (cs := #[.slice A0_0 l0_0.length c0_0, .slice A0_1 l0_1.length c0_1]) (t := 25) ?_; intro gb484 hg w6 hbox hb; have BK484 := A0_ (hbox); have GW484 := zG hg HB; have GE484 := zG hg HB; replace HB := zB HB hb; clear hb hbox hg; have hcz7_0 := zc0 BK484; have hcz7_1 := zc1 BK484; have hfz7_0 := kF BK484.out 0; have hfz7_1 := kF BK484.out 1) | ((with_reducible refine gC (f := 57) rfl ?_); refine zJ (some 6) Try.func57 #[.agg #[.slice A0_0 l0_0.length c0_0, .slice A0_1 l0_1.length c0_1]] ?_; (with_reducible refine (spec_MapValid.calls k _ _ l0_0 _ _ l0_1 true _ ?side1 ?side2 ?side3 ?side4 A3.out).mono ?_); (case side1 => exact zC HR0_0 HB); (case side2 => exact HC0_0.out); (case side3 => exact zC HR0_1 HB); (case side4 => exact HC0_1.out); rintro e w8 ⟨rfl, hb⟩; refine ⟨_, rfl, ?_⟩; replace BK484 := zK BK484 hb; replace HB := zB HB hb; (try clear hb); have hcz9_0 := zc0 BK484; have hcz9_1 := zc1 BK484; have hfz9_0 := kF BK484.out 0; have hfz9_1 := kF BK484.out 1) | (go_at_call 101; (with_reducible refine (spec_l6In.calls a1 0 (wrap64 ((l0_0.length : Int) - 1)) t486 _ A5.out).mono ?_); rintro e w' ⟨rfl, ⟨nd, rfl⟩⟩))
  go_ret
  exact ⟨by first | rfl | (simp [*] <;> rfl), zB_ HB⟩
 replace c4 := Bool.eq_false_iff.mpr c4; subst c4
 rw [if_neg (show ¬ (false = true) by decide)] at H
 obtain rfl := sI H
 go_enter Try.func88, Try.ntmps88
 go_wp2_with (first | ((with_reducible refine gD (N := 2) rfl ?_); refine zX (N := 2) (cs := #[.slice A0_0 l0_0.length c0_0, .slice A0_1 l0_1.length c0_1]) (t := 25) ?_; intro gb484 hg w10 hbox hb; have BK484 := A0_ (hbox); have GW484 := zG hg HB; have GE484 := zG hg HB; replace HB := zB HB hb; clear hb hbox hg; have hcz11_0 := zc0 BK484; have hcz11_1 := zc1 BK484; have hfz11_0 := kF BK484.out 0; have hfz11_1 := kF BK484.out 1) | ((with_reducible refine gC (f := 57) rfl ?_); refine zJ (some 6) Try.func57 #[.agg #[.slice A0_0 l0_0.length c0_0, .slice A0_1 l0_1.length c0_1]] ?_; (with_reducible refine (spec_MapValid.calls k _ _ l0_0 _ _ l0_1 false _ ?side1 ?side2 ?side3 ?side4 A3.out).mono ?_); (case side1 => exact zC HR0_0 HB); (case side2 => exact HC0_0.out); (case side3 => exact zC HR0_1 HB); (case side4 => exact HC0_1.out); rintro e w12 ⟨rfl, hb⟩; refine ⟨_, rfl, ?_⟩; replace BK484 := zK BK484 hb; replace HB := zB HB hb; (try clear hb)))
 go_ret
 exact ⟨by first | rfl | (simp [*] <;> rfl), zB_ HB⟩

/-! ### spec_l7Has: function 95 -/
def spec_l7Has.l0 : Nat → List Int → Int → Int → Option (Bool)
  | 0, _, _, _ => none
  | k + 1, x0, x1, x5 => if x5 < (x0.length : Int) then (if 0 ≤ x5 then (if (rd x0 x5) = x1 then (some true) else (spec_l7Has.l0 k x0 x1 (wrap64 (x5 + 1)))) else (none)) else (some false)
def spec_l7Has.f (k : Nat) (l0 : List Int) (a1 : Int) : Option (Bool) := spec_l7Has.l0 k l0 a1 0
set_option maxHeartbeats 8000000 in
set_option maxRecDepth 100000 in
theorem spec_l7Has.calls (k : Nat) (A0 : Option Addr) (c0 : Nat) (l0 : List Int) (a1 : Int) (r : Bool) (w : World) (hr0 : Kd.C (Kd.int .i64) w A0 l0.length l0) (hc0 : l0.length ≤ c0) (h : spec_l7Has.f k l0 a1 = some r) :
    Calls Try.prog 95 #[.slice A0 l0.length c0, .int .i64 a1] w fun e w' => e = .returned (.bool r) ∧ Drawn0 w w' := by
 have HR0 := A0_ hr0; have HC0 := A0_ hc0; clear hr0 hc0
 have H : (spec_l7Has.l0 k l0 a1 0) = some r := h
 clear h; have H' := A0_ H; clear H
 go_enter Try.func95, Try.ntmps95
 go_wp2
 go_loopg [5] k (fun kq v5 w' => ∃ (x5_1 : Int), v5 = .int .i64 x5_1 ∧ Aside0 (spec_l7Has.l0 kq l0 a1 x5_1 = some r) ∧ Aside0 (kq ≤ k) ∧ Drawn0 w w')
 case atStart => exact ⟨(0), zt, H', ⟨Nat.le_refl _⟩, by repeat (first | exact Drawn0.refl _ | apply Drawn0.step)⟩
 case round =>
  clear H'; (try clear p2); obtain ⟨x5_1, rfl, HA, HK1, ⟨m1, rfl⟩⟩ := hrel
  cases gk with
  | zero => exact absurd HA.out (by simp [spec_l7Has.l0])
  | succ k1 =>
   have H := HA.out; clear HA; simp only [spec_l7Has.l0] at H
   by_cases c3 : x5_1 < (l0.length : Int)
   ·rw [if_pos c3] at H
    have c3b0 := dT c3; clear c3
    by_cases c4 : 0 ≤ x5_1
    ·rw [if_pos c4] at H
     have c4b0 := dT c4; clear c4
     by_cases c5 : (rd l0 x5_1) = a1
     ·rw [if_pos c5] at H
      have c5b0 : ((rd l0 x5_1) == a1) = true := beq_iff_eq.mpr c5
      have c5b1 : ((rd l0 x5_1) != a1) = false := bne_eq_false_iff_eq.mpr c5
      clear c5; obtain rfl := sI H
      have p487 : 0 ≤ (x5_1 : Int) := zd
      have q487 : x5_1 < (l0.length : Int) := zd
      obtain ⟨ad487, e487, hx487_0⟩ := tI HR0.out x5_1 p487 q487
      cases e487
      replace p487 := eq_true p487; replace q487 := eq_true q487
      go_wp2
      go_ret
      exact ⟨by first | rfl | (simp; done) | (simp [*]; done), by repeat (first | exact Drawn0.refl _ | apply Drawn0.step)⟩
     rw [if_neg c5] at H
     have c5b0 : ((rd l0 x5_1) == a1) = false := beq_eq_false_iff_ne.mpr c5
     have c5b1 : ((rd l0 x5_1) != a1) = true := bne_iff_ne.mpr c5
     have H' := A0_ H; clear H
     have p487 : 0 ≤ (x5_1 : Int) := zd
     have q487 : x5_1 < (l0.length : Int) := zd
     obtain ⟨ad487, e487, hx487_0⟩ := tI HR0.out x5_1 p487 q487
     cases e487
     replace p487 := eq_true p487; replace q487 := eq_true q487
     go_wp2
     go_roundg k1
     case measure => have := HK1.out; omega
     case rel => exact ⟨(wrap64 (x5_1 + 1)), zt, H', ⟨by have := HK1.out; omega⟩, by repeat (first | exact Drawn0.refl _ | apply Drawn0.step)⟩
    rw [if_neg c4] at H
    exact absurd H (by simp)
   rw [if_neg c3] at H; have c3b0 := dF c3; clear c3; obtain rfl := sI H
   go_wp2
   go_ret
   exact ⟨by first | rfl | (simp; done) | (simp [*]; done), by repeat (first | exact Drawn0.refl _ | apply Drawn0.step)⟩

/-! ### spec_CoverWinding: function 46 -/
mutual
def spec_CoverWinding.j0 : Nat → Int → List (List Int) → Int → Bool → List Int → List Int → Option (List Int × Bool)
  | 0, _, _, _, _, _, _ => none
  | k + 1, x1, x2, x3, x22, x489000, x489001 => if x22 = true then (some ((([] : List Int)), false)) else ((spec_l2Faces.f k x489000 x489001).bind fun t494 => ((spec_l1Cycles.f k t494).bind fun t497 => (spec_CoverWinding.l0 k x1 x2 x3 t497 0 x489000 x489001)))
def spec_CoverWinding.l0 : Nat → Int → List (List Int) → Int → List (List Int) → Int → List Int → List Int → Option (List Int × Bool)
  | 0, _, _, _, _, _, _, _ => none
  | k + 1, x1, x2, x3, x10, x11, x489000, x489001 => if 0 ≤ x11 then (if x11 < (x10.length : Int) then ((spec_l7Has.f k (rd_L1 x10 x11) x3).bind fun t501 => (if t501 = true then ((spec_l9Winding.f k x489000 x489001 x1 x2 (rd_L1 x10 x11)).bind fun t503 => (some (t503, true))) else (spec_CoverWinding.l0 k x1 x2 x3 x10 (wrap64 (x11 + 1)) x489000 x489001))) else (none)) else (none)
end
def spec_CoverWinding.f (k : Nat) (l0_0 : List Int) (l0_1 : List Int) (a1 : Int) (l2 : List (List Int)) (a3 : Int) : Option (List Int × Bool) := (spec_VoltageValid.f k l0_0 l0_1 a1 l2).bind fun t489 => (if t489 = true then ((spec_l2Dart.f k l0_0 l0_1 a3).bind fun t490 => (spec_CoverWinding.j0 k a1 l2 a3 (!t490) l0_0 l0_1)) else (spec_CoverWinding.j0 k a1 l2 a3 true l0_0 l0_1))
def spec_CoverWinding.T7 : Bool × List (List Nat × List Nat) := (true, [([], []), ([], []), ([], []), ([], []), ([], []), ([3, 4], [3, 4]), ([5], [5]), ([0, 1, 2, 6], [0, 1, 2, 6]), ([7, 7, 0, 1, 2, 3, 4, 5, 6, 7], [7]), ([8, 0, 1, 2, 3, 4, 5, 6, 7, 8], [])])
def spec_CoverWinding.B7 : List Nat := [0, 0, 0, 0, 0, 24, 56, 127, 255, 511]
theorem spec_CoverWinding.tab7 : rtab .any (opsOf Try.f46 7) = spec_CoverWinding.T7 := by kernel_rfl
theorem spec_CoverWinding.bits7 : waitsOk spec_CoverWinding.T7.2 spec_CoverWinding.B7 = true := by kernel_rfl
set_option maxHeartbeats 8000000 in
set_option maxRecDepth 100000 in
theorem spec_CoverWinding.calls (k : Nat) (A0_0 : Option Addr) (c0_0 : Nat) (l0_0 : List Int) (A0_1 : Option Addr) (c0_1 : Nat) (l0_1 : List Int) (a1 : Int) (A2 : Option Addr) (c2 : Nat) (l2 : List (List Int)) (a3 : Int) (r1 : List Int) (r2 : Bool) (w : World) (hr0_0 : Kd.C (Kd.int .i64) w A0_0 l0_0.length l0_0) (hc0_0 : l0_0.length ≤ c0_0) (hr0_1 : Kd.C (Kd.int .i64) w A0_1 l0_1.length l0_1) (hc0_1 : l0_1.length ≤ c0_1) (hr2 : Kd.C (Kd.slice 3 (Kd.int .i64)) w A2 l2.length l2) (hc2 : l2.length ≤ c2) (h : spec_CoverWinding.f k l0_0 l0_1 a1 l2 a3 = some (r1, r2)) :
    Calls Try.prog 46 #[.agg #[.slice A0_0 l0_0.length c0_0, .slice A0_1 l0_1.length c0_1], .int .i64 a1, .slice A2 l2.length c2, .int .i64 a3] w fun e w' => ∃ v0_ : Value, e = .returned (.tuple #[v0_, .bool r2]) ∧ Kd.R (Kd.int .i64) 3 w' w.heap.size (fun _ => True) v0_ r1 ∧ Below w.heap.size w w' := by
 have hu25 := Try.underlying25; have HR0_0 := A0_ hr0_0; have HC0_0 := A0_ hc0_0; clear hr0_0 hc0_0; have HR0_1 := A0_ hr0_1; have HC0_1 := A0_ hc0_1; clear hr0_1 hc0_1; have HR2 := A0_ hr2; have HC2 := A0_ hc2; clear hr2 hc2
 have HB := A0_ (Below.refl w.heap.size w)
 have H : ((spec_VoltageValid.f k l0_0 l0_1 a1 l2).bind fun t489 => (if t489 = true then ((spec_l2Dart.f k l0_0 l0_1 a3).bind fun t490 => (spec_CoverWinding.j0 k a1 l2 a3 (!t490) l0_0 l0_1)) else (spec_CoverWinding.j0 k a1 l2 a3 true l0_0 l0_1))) = some (r1, r2) := h
 clear h; have HC5 := A0_ H; clear H
 go_enter Try.func46, Try.ntmps46
 go_upto_region 1 with (first | ((with_reducible refine gD (N := 4) rfl ?_); refine zX (N := 4) (cs := #[.slice A0_0 l0_0.length c0_0, .slice A0_1 l0_1.length c0_1]) (t := 25) ?_; intro gb488 hg w6 hbox hb; have BK488 := A0_ (hbox); have GW488 := zG hg HB; have GE488 := zG hg HB; replace HB := zB HB hb; clear hb hbox hg))
 (try simp only [Act.put, List.setIfInBounds_toArray, List.set_cons_zero, List.set_cons_succ])
 go_cut [22] (fun v22 wc => ∃ (kq : Nat) (x22_4 : Bool), v22 = .bool x22_4 ∧ Aside0 (spec_CoverWinding.j0 kq a1 l2 a3 x22_4 l0_0 l0_1 = some (r1, r2)) ∧ Aside0 (kq ≤ k) ∧ Aside0 (wc.heap[gb488]? = some (.cells #[(.slice A0_0 l0_0.length c0_0), (.slice A0_1 l0_1.length c0_1)] 25 (0, 0))) ∧ Aside0 (Below w.heap.size w wc))
 case first =>
  have H := HC5.out; clear HC5; obtain ⟨t489, A7, H⟩ := zbind H
  by_cases c8 : t489 = true
  ·subst c8
   have H1 : ((spec_l2Dart.f k l0_0 l0_1 a3).bind fun t490 => (spec_CoverWinding.j0 k a1 l2 a3 (!t490) l0_0 l0_1)) = some (r1, r2) := by rw [if_pos rfl] at H; exact H
   clear H; have H := H1; clear H1; obtain ⟨t490, A9, H⟩ := zbind H; have H' := A0_ H; clear H; have hcz10_0 := zc0 BK488; have hcz10_1 := zc1 BK488; have hfz10_0 := kF BK488.out 0; have hfz10_1 := kF BK488.out 1
   go_wp2_with (first | ((with_reducible refine gC (f := 56) rfl ?_); refine zJ (some 15) Try.func56 #[.agg #[.slice A0_0 l0_0.length c0_0, .slice A0_1 l0_1.length c0_1], .int .i64 a1, .slice A2 l2.length c2] ?_; (with_reducible refine (spec_VoltageValid.calls k _ _ l0_0 _ _ l0_1 a1 _ _ l2 true _ ?side1 ?side2 ?side3 ?side4 ?side5 ?side6 A7.out).mono ?_); (case side1 => exact zC HR0_0 HB); (case side2 => exact HC0_0.out); (case side3 => exact zC HR0_1 HB); (case side4 => exact HC0_1.out); (case side5 => exact zC HR2 HB); (case side6 => exact HC2.out); rintro e w11 ⟨rfl, hb⟩; refine ⟨_, rfl, ?_⟩; replace BK488 := zK BK488 hb; replace HB := zB HB hb; (try clear hb); have hcz12_0 := zc0 BK488; have hcz12_1 := zc1 BK488; have hfz12_0 := kF BK488.out 0; have hfz12_1 := kF BK488.out 1) | (go_at_call 88; (with_reducible refine (spec_l2Dart.calls k _ _ l0_0 _ _ l0_1 a3 t490 _ ?side1 ?side2 ?side3 ?side4 A9.out).mono ?_); (case side1 => exact zC HR0_0 HB); (case side2 => exact HC0_0.out); (case side3 => exact zC HR0_1 HB); (case side4 => exact HC0_1.out); rintro e w13 ⟨rfl, hb⟩; replace BK488 := zK BK488 hb; replace HB := zB HB hb; (try clear hb)))
   go_meet
   case rel => exact ⟨_, (!t490), zt, H', zo, ⟨zK_ BK488⟩, ⟨zB_ HB⟩⟩
  replace c8 := Bool.eq_false_iff.mpr c8; subst c8
  have H1 : (spec_CoverWinding.j0 k a1 l2 a3 true l0_0 l0_1) = some (r1, r2) := by rw [if_neg (show ¬ (false = true) by decide)] at H; exact H
  clear H; have H := H1; clear H1; have H' := A0_ H; clear H; have hcz14_0 := zc0 BK488; have hcz14_1 := zc1 BK488; have hfz14_0 := kF BK488.out 0; have hfz14_1 := kF BK488.out 1
  go_wp2_with (first | ((with_reducible refine gC (f := 56) rfl ?_); refine zJ (some 15) Try.func56 #[.agg #[.slice A0_0 l0_0.length c0_0, .slice A0_1 l0_1.length c0_1], .int .i64 a1, .slice A2 l2.length c2] ?_; (with_reducible refine (spec_VoltageValid.calls k _ _ l0_0 _ _ l0_1 a1 _ _ l2 false _ ?side1 ?side2 ?side3 ?side4 ?side5 ?side6 A7.out).mono ?_); (case side1 => exact zC HR0_0 HB); (case side2 => exact HC0_0.out); (case side3 => exact zC HR0_1 HB); (case side4 => exact HC0_1.out); (case side5 => exact zC HR2 HB); (case side6 => exact HC2.out); rintro e w15 ⟨rfl, hb⟩; refine ⟨_, rfl, ?_⟩; replace BK488 := zK BK488 hb; replace HB := zB HB hb; (try clear hb)))
  go_meet
  case rel => exact ⟨_, (true), zt, H', zo, ⟨zK_ BK488⟩, ⟨zB_ HB⟩⟩
 case rest =>
  clear HC5; (try clear c2); (try clear p2); (try clear c4); (try clear c5); (try clear c8); (try clear hcz10_0); (try clear hcz10_1); (try clear hcz12_0); (try clear hcz12_1); (try clear hcz14_0); (try clear hcz14_1); (try clear hfz10_0); (try clear hfz10_1); (try clear hfz12_0); (try clear hfz12_1); (try clear hfz14_0); (try clear hfz14_1); obtain ⟨kq, x22_4, rfl, HA, HJ4, BK488, HB⟩ := hcut
  cases kq with
  | zero => exact absurd HA.out (by simp [spec_CoverWinding.j0])
  | succ kj4 =>
   have H := HA.out; clear HA; simp only [spec_CoverWinding.j0] at H
   by_cases c16 : x22_4 = true
   ·subst c16
    have H1 : (some ((([] : List Int)), false)) = some (r1, r2) := by rw [if_pos rfl] at H; exact H
    clear H; have H := H1; clear H1
    obtain ⟨y491, hy491⟩ : ∃ y_ : List Int, y_ = (([] : List Int)) := ⟨_, rfl⟩
    replace H : (some (y491, false)) = some (r1, r2) := zH hy491 H
    have Ny491 := A0_ hy491; clear hy491; simp only [Option.some.injEq, Prod.mk.injEq] at H; obtain ⟨rfl, rfl⟩ := H
    go_wp2_with (first | ((with_reducible refine gD (N := 23) rfl ?_); refine Kd.R_lit (Kd.int .i64) _ 3 ?hg (N := 23) ?hd (xs := ([] : List Int)) (inner := []) (ok := fun _ => True) (okp := fun _ => True) ?hr ?hp (fun _ hk => hk) trivial (Below.refl _ _) (Nat.le_refl _) (by simp) ?_; (case hd => rfl); (case hg => rfl); (case hr => first | (go_simp; done) | (go_simp; rfl)); (case hp => exact (Reps.none _ _)); intro v492 w17 ho18 hb hg_ hnew_; clear hg_ hnew_; (first | rw [← Ny491.out] at ho18 | (simp only [Int.reduceToNat] at ho18; rw [← Ny491.out] at ho18)); have HO493 := A0_ (rL ho18 (bZ (zB_ HB))); replace BK488 := zK BK488 hb; replace HB := zB HB hb; clear hb ho18))
    go_ret2
    exact ⟨_, by first | rfl | (simp [*] <;> rfl), zR_ HO493, zB_ HB⟩
   replace c16 := Bool.eq_false_iff.mpr c16; subst c16
   have H1 : ((spec_l2Faces.f kj4 l0_0 l0_1).bind fun t494 => ((spec_l1Cycles.f kj4 t494).bind fun t497 => (spec_CoverWinding.l0 kj4 a1 l2 a3 t497 0 l0_0 l0_1))) = some (r1, r2) := by rw [if_neg (show ¬ (false = true) by decide)] at H; exact H
   clear H; have H := H1; clear H1; obtain ⟨t494, A19, H⟩ := zbind H; obtain ⟨t497, A20, H⟩ := zbind H; have H' := A0_ H; clear H; have hcz21_0 := zc0 BK488; have hcz21_1 := zc1 BK488; have hfz21_0 := kF BK488.out 0; have hfz21_1 := kF BK488.out 1
   go_wp2_with (first | ((with_reducible refine gC (f := 72) rfl ?_); refine zJ (some 25) Try.func72 #[.agg #[.slice A0_0 l0_0.length c0_0, .slice A0_1 l0_1.length c0_1]] ?_; (with_reducible refine (spec_l2Faces.calls kj4 _ _ l0_0 _ _ l0_1 t494 _ ?side1 ?side2 ?side3 ?side4 A19.out).mono ?_); (case side1 => exact zC HR0_0 HB); (case side2 => exact HC0_0.out); (case side3 => exact zC HR0_1 HB); (case side4 => exact HC0_1.out); rintro e w22 ⟨v495, rfl, ho0, hb⟩; refine ⟨_, rfl, ?_⟩; have HO496 := A0_ (rL ho0 (bZ (zB_ HB))); replace BK488 := zK BK488 hb; replace HB := zB HB hb; (try clear hb); (try clear ho0); obtain ⟨Ao23, co23, eo23⟩ := rS HO496.out; subst eo23) | ((with_reducible refine gC (f := 71) rfl ?_); refine zJ (some 26) Try.func71 #[.slice Ao23 t494.length co23] ?_; (with_reducible refine (spec_l1Cycles.calls kj4 _ _ t494 t497 _ ?side1 ?side2 A20.out).mono ?_); (case side1 => exact zD HO496); (case side2 => exact (rR HO496.out).2.1); rintro e w24 ⟨v498, rfl, ho0, hb⟩; refine ⟨_, rfl, ?_⟩; have HO499 := A0_ (Kd.S_lower (Kd.S_new' ho0 (rX (zR_ HO496))) (bZ (zB_ HB))); replace HO496 := zR HO496 hb; replace BK488 := zK BK488 hb; replace HB := zB HB hb; (try clear hb); (try clear ho0)))
   go_loopg [11] kj4 (fun kq v11 w' => ∃ (x11_2 : Int), v11 = .int .i64 x11_2 ∧ Aside0 (spec_CoverWinding.l0 kq a1 l2 a3 t497 x11_2 l0_0 l0_1 = some (r1, r2)) ∧ Aside0 (kq ≤ kj4) ∧ Aside0 (Kd.S (Kd.slice 3 (Kd.int .i64)) 23 w' w.heap.size (fun _ => True) v498 t497) ∧ Aside0 (w'.heap[gb488]? = some (.cells #[(.slice A0_0 l0_0.length c0_0), (.slice A0_1 l0_1.length c0_1)] 25 (0, 0))) ∧ Aside0 (Below w.heap.size w w'))
   case atStart => exact ⟨(0), zt, H', ⟨Nat.le_refl _⟩, ⟨zmS HO499 (fun _ hk => trivial)⟩, ⟨zK_ BK488⟩, ⟨zB_ HB⟩⟩
   case round =>
    clear H'; (try clear c1); (try clear c2); (try clear p2); (try clear c4); (try clear c5); (try clear c7); (try clear c8); (try clear c16); (try clear hcz10_0); (try clear hcz10_1); (try clear hcz12_0); (try clear hcz12_1); (try clear hcz14_0); (try clear hcz14_1); (try clear hcz21_0); (try clear hcz21_1); (try clear hfz10_0); (try clear hfz10_1); (try clear hfz12_0); (try clear hfz12_1); (try clear hfz14_0); (try clear hfz14_1); (try clear hfz21_0); (try clear hfz21_1); (try clear p2); obtain ⟨x11_2, rfl, HA, HK2, HO_10, BK488, HB⟩ := hrel
    cases gk with
    | zero => exact absurd HA.out (by simp [spec_CoverWinding.l0])
    | succ k2 =>
     have H := HA.out; clear HA; simp only [spec_CoverWinding.l0] at H
     by_cases c25 : 0 ≤ x11_2
     ·rw [if_pos c25] at H
      have c25b0 := dT c25; clear c25
      by_cases c26 : x11_2 < (t497.length : Int)
      ·rw [if_pos c26] at H
       have c26b0 := dT c26; clear c26; obtain ⟨t501, A27, H⟩ := zbind H
       by_cases c28 : t501 = true
       ·subst c28
        have H1 : ((spec_l9Winding.f k2 l0_0 l0_1 a1 l2 (rd_L1 t497 x11_2)).bind fun t503 => (some (t503, true))) = some (r1, r2) := by rw [if_pos rfl] at H; exact H
        clear H; have H := H1; clear H1; obtain ⟨t503, A29, H⟩ := zbind H; simp only [Option.some.injEq, Prod.mk.injEq] at H; obtain ⟨rfl, rfl⟩ := H; obtain ⟨Ao30, co30, eo30⟩ := Kd.S_slice HO_10.out; subst eo30
        have p500 : 0 ≤ (x11_2 : Int) := zd
        have q500 : x11_2 < (t497.length : Int) := zd
        obtain ⟨ad500, A500_0, c500_0, e500, hx500_0, hl500_0, hi500_0⟩ := at_L1 (Kd.S_reads' HO_10.out).2.2 x11_2 p500 q500
        cases e500
        obtain ⟨ce500, hce500, hMe500, hcc500⟩ := Kd.S_get HO_10.out [] x11_2 p500 (by first | exact q500 | exact zd | (have e_ := (Kd.S_reads' HO_10.out).1; omega))
        obtain ⟨ve500_0, rfl, ge500_0⟩ := hMe500; have hv500_0 := hcc500 0 _ rfl
        rw [Nat.add_zero, show ((Kd.slice 3 (Kd.int .i64))).sz = 1 from rfl, Nat.mul_one] at hv500_0
        replace hv500_0 := sI (hv500_0.symm.trans hx500_0)
        rw [hv500_0] at ge500_0
        have HL500_0 := A0_ (show Kd.R (Kd.int .i64) 3 _ _ _ _ (rd_L1 t497 x11_2) from ge500_0)
        clear hv500_0 ge500_0 hcc500 hce500; have HR500_0 := A0_ hi500_0; have HC500_0 := A0_ hl500_0; clear hi500_0 hl500_0; replace p500 := eq_true p500; replace q500 := eq_true q500
        try go_wp2_with (first | ((with_reducible refine gC (f := 95) rfl ?_); refine zJ (some 32) Try.func95 #[.slice A500_0 (rd_L1 t497 x11_2).length c500_0, .int .i64 a3] ?_; (with_reducible refine (spec_l7Has.calls k2 _ _ (rd_L1 t497 x11_2) a3 true _ ?side1 ?side2 A27.out).mono ?_); (case side1 => repeat (first | exact (by repeat (first | (with_reducible exact HR500_0.out) | (with_reducible refine cA ?_ _) | (with_reducible refine cN ?_ _) | (with_reducible refine cD ?_) | exact HR500_0.out)) | (with_reducible refine cA ?_ _) | (with_reducible refine cN ?_ _) | (with_reducible refine cD ?_))); (case side2 => exact HC500_0.out); rintro e w' ⟨rfl, ⟨nd, rfl⟩⟩; refine ⟨_, rfl, ?_⟩))
        (try (rw [drewN_self wr]; generalize hq_ : World.drewN wr _ = wr; have n0_ : Aside0 (Kd.R (Kd.int .i64) 3 wr w.heap.size (fun k_ => some k_ ≠ (.slice (some ad500) t497.length co30 : Value).ownBlock) (.slice A500_0 (rd_L1 t497 x11_2).length c500_0) (rd_L1 t497 x11_2)) := ⟨by rw [← hq_]; exact (zmR HL500_0 (fun _ hk => hk.2))⟩; have n1_ : Aside0 (Kd.S (Kd.slice 3 (Kd.int .i64)) 23 wr w.heap.size (fun _ => True) (.slice (some ad500) t497.length co30) t497) := ⟨by rw [← hq_]; exact (zS_ HO_10)⟩; have n2_ : Aside0 (wr.heap[gb488]? = some (.cells #[.slice A0_0 l0_0.length c0_0, .slice A0_1 l0_1.length c0_1] 25 (0, 0))) := ⟨by rw [← hq_]; exact (zK_ BK488)⟩; have n3_ : Aside0 (Below w.heap.size w wr) := ⟨by rw [← hq_]; exact (zB_ HB)⟩; have n4_ : Aside0 (Kd.C (Kd.int .i64) wr A500_0 (rd_L1 t497 x11_2).length (rd_L1 t497 x11_2)) := ⟨by rw [← hq_]; exact (by repeat (first | (with_reducible exact HR500_0.out) | (with_reducible refine cA ?_ _) | (with_reducible refine cN ?_ _) | (with_reducible refine cD ?_) | exact HR500_0.out))⟩; clear HL500_0 HO_10 BK488 HB HR500_0 hq_; have HL500_0 := n0_; have HO_10 := n1_; have BK488 := n2_; have HB := n3_; have HR500_0 := n4_; clear n0_ n1_ n2_ n3_ n4_))
        replace HO_10 := A0_ (sD HO_10.out)
        replace HL500_0 := A0_ (rD HL500_0.out)
        replace BK488 := A0_ (kD BK488.out)
        replace HR500_0 := A0_ (cD HR500_0.out)
        replace HB := A0_ (bD HB.out)
        have p502 : 0 ≤ (x11_2 : Int) := zd
        have q502 : x11_2 < (t497.length : Int) := zd
        obtain ⟨ad502, A502_0, c502_0, e502, hx502_0, hl502_0, hi502_0⟩ := at_L1 (Kd.S_reads' HO_10.out).2.2 x11_2 p502 q502
        obtain rfl : ad500 = ad502 := (by injection e502)
        obtain ⟨ce502, hce502, hMe502, hcc502⟩ := Kd.S_get HO_10.out [] x11_2 p502 (by first | exact q502 | exact zd | (have e_ := (Kd.S_reads' HO_10.out).1; omega))
        obtain ⟨ve502_0, rfl, ge502_0⟩ := hMe502; have hv502_0 := hcc502 0 _ rfl
        rw [Nat.add_zero, show ((Kd.slice 3 (Kd.int .i64))).sz = 1 from rfl, Nat.mul_one] at hv502_0
        replace hv502_0 := sI (hv502_0.symm.trans hx502_0)
        rw [hv502_0] at ge502_0
        have HL502_0 := A0_ (show Kd.R (Kd.int .i64) 3 _ _ _ _ (rd_L1 t497 x11_2) from ge502_0)
        clear hv502_0 ge502_0 hcc502 hce502; have HR502_0 := A0_ hi502_0; have HC502_0 := A0_ hl502_0; clear hi502_0 hl502_0; replace p502 := eq_true p502; replace q502 := eq_true q502
        refine start_ (n := 10) (S := fun w' => w'.cell? ⟨gb488, 0, none⟩ = some (.slice A0_0 l0_0.length c0_0) ∧ w'.cell? ⟨gb488, 1, none⟩ = some (.slice A0_1 l0_1.length c0_1) ∧ w'.cell? (ad500.add (x11_2).toNat) = some (.slice A502_0 (rd_L1 t497 x11_2).length c502_0)) (ds := []) #[false, false, false, false, false, false, false, false, false, false] (by kernel_rfl) rfl rfl ⟨(kC BK488.out 0).trans rfl, (kC BK488.out 1).trans rfl, hx502_0⟩ (fun hHeld => ?_); refine with_tabW spec_CoverWinding.tab7 spec_CoverWinding.bits7 (fun HT_ HW_ => ?_)
        generalize wr.drew = w31 at HO_10 HL500_0 BK488 HR500_0 HB HL502_0 HR502_0 hx502_0 hHeld ⊢
        refine zP 1 (some 37) #[false,true,false,false,false,false,false,false,false,false] ?_
        refine zP 2 (some 38) #[false,true,true,false,false,false,false,false,false,false] ?_
        refine zP 3 (some 39) #[false,true,true,true,false,false,false,false,false,false] ?_
        refine zP 4 (some 40) #[false,true,true,true,true,false,false,false,false,false] ?_
        refine zP 5 (some 41) #[false,true,true,true,true,true,false,false,false,false] ?_
        refine take_ (i := 0) (N := some 36) (v := ?_) (a' := ?_) #[true, true, true, true, true, true, false, false, false, false] rfl rfl (take_ofW HT_.out HW_.out (by kernel_rfl)) (fun _ _ _ h => h) (Or.inl ⟨by rfl, ?_⟩) hHeld ?_ ?_
        rotate_left
        ·rintro w' ⟨s0, s1, s2⟩
         go_simp
         with_reducible rfl
        rotate_left
        ·simp only [Act.put, List.setIfInBounds_toArray, List.set_cons_zero, List.set_cons_succ, i64_w, i32_w]
         rfl
        refine take_ (i := 6) (N := some 42) (v := ?_) (a' := ?_) #[true, true, true, true, true, true, true, false, false, false] rfl rfl (take_ofW HT_.out HW_.out (by kernel_rfl)) (fun _ _ _ h => h) (Or.inl ⟨by rfl, ?_⟩) hHeld ?_ ?_
        rotate_left
        ·rintro w' ⟨s0, s1, s2⟩
         go_simp
         with_reducible rfl
        rotate_left
        ·simp only [Act.put, List.setIfInBounds_toArray, List.set_cons_zero, List.set_cons_succ, i64_w, i32_w]
         rfl
        refine one_ (i := 7) (N := some 43) #[true, true, true, true, true, true, true, true, false, false] rfl rfl (one_of HT_.out (by kernel_rfl)) (by decide) (fun K hK => ?_)
        refine goes_ Try.func73 (by kernel_rfl) rfl #[.agg #[.slice A0_0 l0_0.length c0_0, .slice A0_1 l0_1.length c0_1], .int .i64 a1, .slice A2 l2.length c2, .slice A502_0 (rd_L1 t497 x11_2).length c502_0] (by rfl) rfl rfl (by (try simp only [List.map_toArray, List.map_cons, List.map_nil]); first | done | rfl | (simp only [List.length_drop, List.length_take]; rfl)) ?_
        with_reducible refine (spec_l9Winding.calls k2 _ _ l0_0 _ _ l0_1 a1 _ _ l2 _ _ (rd_L1 t497 x11_2) t503 _ ?side1 ?side2 ?side3 ?side4 ?side5 ?side6 ?side7 ?side8 A29.out).mono ?_
        (case side1 => exact zC HR0_0 HB)
        (case side2 => exact HC0_0.out)
        (case side3 => exact zC HR0_1 HB)
        (case side4 => exact HC0_1.out)
        (case side5 => exact zC HR2 HB)
        (case side6 => exact HC2.out)
        (case side7 => repeat (first | exact (by repeat (first | (with_reducible exact HR502_0.out) | (with_reducible refine cA ?_ _) | (with_reducible refine cN ?_ _) | (with_reducible refine cD ?_) | exact HR502_0.out)) | (with_reducible refine cA ?_ _) | (with_reducible refine cN ?_ _) | (with_reducible refine cD ?_)))
        (case side8 => exact HC502_0.out)
        rintro e w32 ⟨v504, rfl, ho0, hb⟩
        have HS2_ := (hb.cell (wL _ _ (hHeld.2.2))).trans (hHeld.2.2)
        refine ⟨_, rfl, ?_⟩
        replace HO_10 := A0_ (Kd.S_elder' (zS_ HO_10) (Kd.R_base ho0) hb)
        have HO505 := A0_ (rL (Kd.R_new' (Kd.R_new' ho0 (rX (zR_ HL500_0))) (rX (zR_ HL502_0))) (bZ (zB_ HB)))
        replace HL500_0 := A0_ (Kd.R_elder' (zR_ HL500_0) (Kd.R_base ho0) hb)
        replace HL502_0 := A0_ (Kd.R_elder' (zR_ HL502_0) (Kd.R_base ho0) hb)
        replace BK488 := zK BK488 hb
        replace HR500_0 := A0_ (cB (by repeat (first | (with_reducible exact HR500_0.out) | (with_reducible refine cA ?_ _) | (with_reducible refine cN ?_ _) | (with_reducible refine cD ?_) | exact HR500_0.out)) hb)
        replace HR502_0 := A0_ (cB (by repeat (first | (with_reducible exact HR502_0.out) | (with_reducible refine cA ?_ _) | (with_reducible refine cN ?_ _) | (with_reducible refine cD ?_) | exact HR502_0.out)) hb)
        replace HB := zB HB hb; (try clear hb); (try clear hb2); (try clear hk); (try clear hi); (try clear ho0)
        refine hK.out _ _ ⟨(kC BK488.out 0).trans rfl, (kC BK488.out 1).trans rfl, HS2_⟩ (fun hHeld => ?_)
        clear hK K
        refine norm_ (a' := ?_) ?_ ?_
        rotate_left
        ·show Act.put _ (some 43) _ = _
         simp only [Act.put, List.setIfInBounds_toArray, List.set_cons_zero, List.set_cons_succ, i64_w, i32_w]
         rfl
        refine zP 8 (some 8) #[true,true,true,true,true,true,true,true,true,false] ?_
        refine zP 9 (some 9) #[true,true,true,true,true,true,true,true,true,true] ?_
        refine done_ (done_of HT_.out (by kernel_rfl)) ?_
        try go_wp2
        go_ret2
        exact ⟨_, by first | rfl | (simp [*] <;> rfl), zmR HO505 (fun _ hk => trivial), zB_ HB⟩
       replace c28 := Bool.eq_false_iff.mpr c28; subst c28
       have H1 : (spec_CoverWinding.l0 k2 a1 l2 a3 t497 (wrap64 (x11_2 + 1)) l0_0 l0_1) = some (r1, r2) := by rw [if_neg (show ¬ (false = true) by decide)] at H; exact H
       clear H; have H := H1; clear H1; have H' := A0_ H; clear H; obtain ⟨Ao33, co33, eo33⟩ := Kd.S_slice HO_10.out; subst eo33
       have p500 : 0 ≤ (x11_2 : Int) := zd
       have q500 : x11_2 < (t497.length : Int) := zd
       obtain ⟨ad500, A500_0, c500_0, e500, hx500_0, hl500_0, hi500_0⟩ := at_L1 (Kd.S_reads' HO_10.out).2.2 x11_2 p500 q500
       cases e500
       obtain ⟨ce500, hce500, hMe500, hcc500⟩ := Kd.S_get HO_10.out [] x11_2 p500 (by first | exact q500 | exact zd | (have e_ := (Kd.S_reads' HO_10.out).1; omega))
       obtain ⟨ve500_0, rfl, ge500_0⟩ := hMe500; have hv500_0 := hcc500 0 _ rfl
       rw [Nat.add_zero, show ((Kd.slice 3 (Kd.int .i64))).sz = 1 from rfl, Nat.mul_one] at hv500_0
       replace hv500_0 := sI (hv500_0.symm.trans hx500_0)
       rw [hv500_0] at ge500_0
       have HL500_0 := A0_ (show Kd.R (Kd.int .i64) 3 _ _ _ _ (rd_L1 t497 x11_2) from ge500_0)
       clear hv500_0 ge500_0 hcc500 hce500; have HR500_0 := A0_ hi500_0; have HC500_0 := A0_ hl500_0; clear hi500_0 hl500_0; replace p500 := eq_true p500; replace q500 := eq_true q500
       go_wp2_with (first | ((with_reducible refine gC (f := 95) rfl ?_); refine zJ (some 32) Try.func95 #[.slice A500_0 (rd_L1 t497 x11_2).length c500_0, .int .i64 a3] ?_; (with_reducible refine (spec_l7Has.calls k2 _ _ (rd_L1 t497 x11_2) a3 false _ ?side1 ?side2 A27.out).mono ?_); (case side1 => repeat (first | exact (by repeat (first | (with_reducible exact HR500_0.out) | (with_reducible refine cA ?_ _) | (with_reducible refine cN ?_ _) | (with_reducible refine cD ?_) | exact HR500_0.out)) | (with_reducible refine cA ?_ _) | (with_reducible refine cN ?_ _) | (with_reducible refine cD ?_))); (case side2 => exact HC500_0.out); rintro e w' ⟨rfl, ⟨nd, rfl⟩⟩; refine ⟨_, rfl, ?_⟩))
       go_roundg k2
       case measure => have := HJ4.out; have := HK2.out; omega
       case rel => exact ⟨(wrap64 (x11_2 + 1)), zt, H', ⟨by have := HJ4.out; have := HK2.out; omega⟩, ⟨zS_ HO_10⟩, ⟨zK_ BK488⟩, ⟨zB_ HB⟩⟩
      rw [if_neg c26] at H
      exact absurd H (by simp)
     rw [if_neg c25] at H
     exact absurd H (by simp)

/-! ### impl_MapFaces: function 48 -/
def impl_MapFaces.f (k : Nat) (l0_0 : List Int) (l0_1 : List Int) : Option (List Int × Bool) := (impl_MapValid.f k l0_0 l0_1).bind fun t507 => (if t507 = true then ((impl_mul.f k l0_1 l0_0).bind fun t508 => (some (t508, true))) else (some (([] : List Int), false)))
set_option maxHeartbeats 8000000 in
set_option maxRecDepth 100000 in
theorem impl_MapFaces.calls (k : Nat) (A0_0 : Option Addr) (c0_0 : Nat) (l0_0 : List Int) (A0_1 : Option Addr) (c0_1 : Nat) (l0_1 : List Int) (r1 : List Int) (r2 : Bool) (w : World) (hr0_0 : Kd.C (Kd.int .i64) w A0_0 l0_0.length l0_0) (hc0_0 : l0_0.length ≤ c0_0) (hr0_1 : Kd.C (Kd.int .i64) w A0_1 l0_1.length l0_1) (hc0_1 : l0_1.length ≤ c0_1) (h : impl_MapFaces.f k l0_0 l0_1 = some (r1, r2)) :
    Calls Try.prog 48 #[.agg #[.slice A0_0 l0_0.length c0_0, .slice A0_1 l0_1.length c0_1]] w fun e w' => ∃ v0_ : Value, e = .returned (.tuple #[v0_, .bool r2]) ∧ Kd.R (Kd.int .i64) 3 w' w.heap.size (fun _ => True) v0_ r1 ∧ Below w.heap.size w w' := by
 have hu25 := Try.underlying25; have HR0_0 := A0_ hr0_0; have HC0_0 := A0_ hc0_0; clear hr0_0 hc0_0; have HR0_1 := A0_ hr0_1; have HC0_1 := A0_ hc0_1; clear hr0_1 hc0_1
 have HB := A0_ (Below.refl w.heap.size w)
 have H : ((impl_MapValid.f k l0_0 l0_1).bind fun t507 => (if t507 = true then ((impl_mul.f k l0_1 l0_0).bind fun t508 => (some (t508, true))) else (some (([] : List Int), false)))) = some (r1, r2) := h
 clear h; obtain ⟨t507, A2, H⟩ := zbind H
 by_cases c3 : t507 = true
 ·subst c3
  have H1 : ((impl_mul.f k l0_1 l0_0).bind fun t508 => (some (t508, true))) = some (r1, r2) := by rw [if_pos rfl] at H; exact H
  clear H; have H := H1; clear H1; obtain ⟨t508, A4, H⟩ := zbind H; simp only [Option.some.injEq, Prod.mk.injEq] at H; obtain ⟨rfl, rfl⟩ := H
  go_enter Try.func48, Try.ntmps48
  go_wp2_with (first | ((with_reducible refine gD (N := 1) rfl ?_); refine zX (N := 1) (cs := #[.slice A0_0 l0_0.length c0_0, .slice A0_1 l0_1.length c0_1]) (t := 25) ?_; intro gb506 hg w5 hbox hb; have BK506 := A0_ (hbox); have GW506 := zG hg HB; have GE506 := zG hg HB; replace HB := zB HB hb; clear hb hbox hg; have hcz6_0 := zc0 BK506; have hcz6_1 := zc1 BK506; have hfz6_0 := kF BK506.out 0; have hfz6_1 := kF BK506.out 1) | ((with_reducible refine gC (f := 54) rfl ?_); refine zJ (some 5) Try.func54 #[.agg #[.slice A0_0 l0_0.length c0_0, .slice A0_1 l0_1.length c0_1]] ?_; (with_reducible refine (impl_MapValid.calls k (fun k_ => k_ < w.heap.size) _ _ l0_0 (fun k_ => k_ < w.heap.size) _ _ l0_1 true _ ?side1 ?side2 A2.out).mono ?_); (case side1 => exact Kd.V_mk HC0_0.out (Kd.F_below (Kd.C_F (Kd.heap_int .i64) HR0_0.out) (zB_ HB))); (case side2 => exact Kd.V_mk HC0_1.out (Kd.F_below (Kd.C_F (Kd.heap_int .i64) HR0_1.out) (zB_ HB))); rintro e w7 ⟨rfl, hb⟩; refine ⟨_, rfl, ?_⟩; replace BK506 := zK BK506 hb; replace HB := zB HB hb; (try clear hb); have hcz8_0 := zc0 BK506; have hcz8_1 := zc1 BK506; have hfz8_0 := kF BK506.out 0; have hfz8_1 := kF BK506.out 1) | ((with_reducible refine gC (f := 69) rfl ?_); refine zJ (some 11) Try.func69 #[.slice A0_1 l0_1.length c0_1, .slice A0_0 l0_0.length c0_0] ?_; (with_reducible refine (impl_mul.calls k _ _ l0_1 _ _ l0_0 t508 _ ?side1 ?side2 ?side3 ?side4 A4.out).mono ?_); (case side1 => exact zC HR0_1 HB); (case side2 => exact HC0_1.out); (case side3 => exact zC HR0_0 HB); (case side4 => exact HC0_0.out); rintro e w9 ⟨v509, rfl, ho0, hb⟩; refine ⟨_, rfl, ?_⟩; have HO510 := A0_ (rL ho0 (bZ (zB_ HB))); replace BK506 := zK BK506 hb; replace HB := zB HB hb; (try clear hb); (try clear ho0)))
  go_ret2
  exact ⟨_, by first | rfl | (simp [*] <;> rfl), zR_ HO510, zB_ HB⟩
 replace c3 := Bool.eq_false_iff.mpr c3; subst c3
 have H1 : (some (([] : List Int), false)) = some (r1, r2) := by rw [if_neg (show ¬ (false = true) by decide)] at H; exact H
 clear H; have H := H1; clear H1; simp only [Option.some.injEq, Prod.mk.injEq] at H; obtain ⟨rfl, rfl⟩ := H
 go_enter Try.func48, Try.ntmps48
 go_wp2_with (first | ((with_reducible refine gD (N := 1) rfl ?_); refine zX (N := 1) (cs := #[.slice A0_0 l0_0.length c0_0, .slice A0_1 l0_1.length c0_1]) (t := 25) ?_; intro gb506 hg w10 hbox hb; have BK506 := A0_ (hbox); have GW506 := zG hg HB; have GE506 := zG hg HB; replace HB := zB HB hb; clear hb hbox hg; have hcz11_0 := zc0 BK506; have hcz11_1 := zc1 BK506; have hfz11_0 := kF BK506.out 0; have hfz11_1 := kF BK506.out 1) | ((with_reducible refine gC (f := 54) rfl ?_); refine zJ (some 5) Try.func54 #[.agg #[.slice A0_0 l0_0.length c0_0, .slice A0_1 l0_1.length c0_1]] ?_; (with_reducible refine (impl_MapValid.calls k (fun k_ => k_ < w.heap.size) _ _ l0_0 (fun k_ => k_ < w.heap.size) _ _ l0_1 false _ ?side1 ?side2 A2.out).mono ?_); (case side1 => exact Kd.V_mk HC0_0.out (Kd.F_below (Kd.C_F (Kd.heap_int .i64) HR0_0.out) (zB_ HB))); (case side2 => exact Kd.V_mk HC0_1.out (Kd.F_below (Kd.C_F (Kd.heap_int .i64) HR0_1.out) (zB_ HB))); rintro e w12 ⟨rfl, hb⟩; refine ⟨_, rfl, ?_⟩; replace BK506 := zK BK506 hb; replace HB := zB HB hb; (try clear hb)))
 go_ret2
 exact ⟨_, by first | rfl | (simp [*] <;> rfl), by first | exact Kd.R_nil _ _ _ _ _ | exact Kd.N_nil _ _ _ _ _ | exact Kd.V_nil _ _ _ _ _ | exact Kd.Q_nil _ _ _ _ _ | exact Kd.S_nil _ _ _ _ _, zB_ HB⟩

end Go.Proofs.Ytmegggomhjgehaa.PFnWinding
