-- Made by a program of this session (wip/tools) out of the loaded program; not trusted: Lean checks it.
import Derived.Test.YtmcgkckdnelcdaaPFnExactCoverTreex0
import Derived.Test.YtmcgkckdnelcdaaPFnExactCoverTreex3
import Derived.Test.YtmcgkckdnelcdaaPFnExactCoverTreex4
import Derived.Test.YtmcgkckdnelcdaaPFnExactCoverTreex5
import Derived.Test.YtmcgkckdnelcdaaPFnExactCoverTreex6
-- packed
namespace Go.Proofs.Ytmcgkckdnelcdaa.PFnExactCoverTree
open Go.RowKit Go.Proofs.YtmcgkckdnelcdaaW.PrintWords Go.Proofs.YtmcgkckdnelcdaaW.PrintLast Go.Proofs.YtmcgkckdnelcdaaW.PrintMore
attribute [local go_sem] max2_int min2_int max_two min_two max_three min_three max_four min_four   -- for this text's walks alone
set_option linter.unusedVariables false
set_option linter.unusedSimpArgs false

/-! ### spec_CoverTree: function 49 -/
mutual
def spec_CoverTree.l0 : Nat → List (List Int) → List Int → List Int → List Int → Int → List Int → List Int → Option ((List (List Int)) × Bool)
  | 0, _, _, _, _, _, _, _ => none
  | k + 1, x2, x8, x9, x10, x11, x335000, x335001 => if x11 < (x9.length : Int) then (if 0 ≤ x11 then (if 0 ≤ (rd x9 x11) then (if (rd x9 x11) < (x335001.length : Int) then (if (rd x9 x11) < (x8.length : Int) then ((spec_l7Has.f k x10 (rd x8 (rd x9 x11))).bind fun t355 => (if t355 = true then (if 0 ≤ (rd x335001 (rd x9 x11)) then (if (rd x335001 (rd x9 x11)) < (x8.length : Int) then ((spec_l7Has.f k x10 (rd x8 (rd x335001 (rd x9 x11)))).bind fun t357 => (spec_CoverTree.j1 k x2 x8 x9 x10 x11 (rd x9 x11) (rd x335001 (rd x9 x11)) (!t357) x335000 x335001)) else (none)) else (none)) else (spec_CoverTree.j1 k x2 x8 x9 x10 x11 (rd x9 x11) (rd x335001 (rd x9 x11)) false x335000 x335001))) else (none)) else (none)) else (none)) else (none)) else (spec_CoverTree.l1 k x2 (([] : List (List Int))) 0)
def spec_CoverTree.j1 : Nat → List (List Int) → List Int → List Int → List Int → Int → Int → Int → Bool → List Int → List Int → Option ((List (List Int)) × Bool)
  | 0, _, _, _, _, _, _, _, _, _, _ => none
  | k + 1, x2, x8, x9, x10, x11, x12, x13, x61, x335000, x335001 => if x61 = true then (if 0 ≤ x13 then (if x13 < (x8.length : Int) then ((spec_l9Volt.f k x335000 x335001 x2 x12).bind fun t359 => ((spec_l1Back.f k t359).bind fun t362 => ((spec_l9Conj.f k x335000 x335001 x2 (rd x8 x13) t362).bind fun t365 => (if x10.length < 17592186044416 then (spec_CoverTree.l0 k t365 x8 x9 (x10 ++ [rd x8 x13]) (wrap64 (x11 + 1)) x335000 x335001) else (none))))) else (none)) else (none)) else (spec_CoverTree.l0 k x2 x8 x9 x10 (wrap64 (x11 + 1)) x335000 x335001)
def spec_CoverTree.l1 : Nat → List (List Int) → List (List Int) → Int → Option ((List (List Int)) × Bool)
  | 0, _, _, _ => none
  | k + 1, x2, x14, x15 => if x15 < (x2.length : Int) then (if 0 ≤ x15 then ((spec_l2Copy.f (rd_L1 x2 x15)).bind fun t376 => (if x14.length < 5864062014805 then (spec_CoverTree.l1 k x2 (x14 ++ [t376]) (wrap64 (x15 + 1))) else (none))) else (none)) else (some (x14, true))
end
def spec_CoverTree.f (k : Nat) (l0_0 : List Int) (l0_1 : List Int) (a1 : Int) (l2 : List (List Int)) : Option ((List (List Int)) × Bool) := (spec_VoltageValid.f k l0_0 l0_1 a1 l2).bind fun t335 => (if t335 = true then ((spec_l7Vertices.f k l0_0).bind fun t339 => ((spec_l2Names.f k l0_0 l0_1 0).bind fun t342 => ((spec_l1Back.f k t342).bind fun t345 => (if 0 < (t339.length : Int) then (spec_CoverTree.l0 k l2 t339 t345 (([rd t339 0] : List Int)) 0 l0_0 l0_1) else (none))))) else (some ((([] : List (List Int))), false)))
def spec_CoverTree.T12 : Bool × List (List Nat × List Nat) := (true, [([], []), ([], []), ([], []), ([], []), ([2, 3], [2, 3]), ([4], [4]), ([], []), ([], []), ([], []), ([6, 7, 8], [6, 7, 8]), ([9, 9], [9]), ([0, 1, 5, 10, 10], [0, 1, 5, 10]), ([11, 11, 0, 1, 2, 3, 4, 5, 6, 7, 8, 9, 10, 11], [1, 7, 11])])
def spec_CoverTree.B12 : List Nat := [0, 0, 0, 0, 12, 28, 0, 0, 0, 448, 960, 2047, 4095]
theorem spec_CoverTree.tab12 : rtab .any (opsOf Try.f49 12) = spec_CoverTree.T12 := by kernel_rfl
theorem spec_CoverTree.bits12 : waitsOk spec_CoverTree.T12.2 spec_CoverTree.B12 = true := by kernel_rfl
set_option maxHeartbeats 8000000 in
set_option maxRecDepth 100000 in
theorem spec_CoverTree.calls (k : Nat) (A0_0 : Option Addr) (c0_0 : Nat) (l0_0 : List Int) (A0_1 : Option Addr) (c0_1 : Nat) (l0_1 : List Int) (a1 : Int) (P2_ : Nat → Prop) (A2 : Option Addr) (c2 : Nat) (l2 : List (List Int)) (r1 : List (List Int)) (r2 : Bool) (w : World) (hr0_0 : Kd.C (Kd.int .i64) w A0_0 l0_0.length l0_0) (hc0_0 : l0_0.length ≤ c0_0) (hr0_1 : Kd.C (Kd.int .i64) w A0_1 l0_1.length l0_1) (hc0_1 : l0_1.length ≤ c0_1) (hs2 : Kd.V (Kd.slice 3 (Kd.int .i64)) 22 w w.heap.size (fun k_ => P2_ k_) (.slice A2 l2.length c2) l2) (h : spec_CoverTree.f k l0_0 l0_1 a1 l2 = some (r1, r2)) :
    Calls Try.prog 49 #[.agg #[.slice A0_0 l0_0.length c0_0, .slice A0_1 l0_1.length c0_1], .int .i64 a1, .slice A2 l2.length c2] w fun e w' => ∃ v0_ : Value, e = .returned (.tuple #[v0_, .bool r2]) ∧ Kd.S (Kd.slice 3 (Kd.int .i64)) 22 w' w.heap.size (fun k_ => (w.heap.size ≤ k_)) v0_ r1 ∧ Below w.heap.size w w' := by
 have hu29 := Try.underlying29; have HR0_0 := A0_ hr0_0; have HC0_0 := A0_ hc0_0; clear hr0_0 hc0_0; have HR0_1 := A0_ hr0_1; have HC0_1 := A0_ hc0_1; clear hr0_1 hc0_1
 have HO2 := A0_ (show Kd.V (Kd.slice 3 (Kd.int .i64)) 22 w w.heap.size (fun k_ => (P2_ k_ ∨ w.heap.size ≤ k_)) (.slice A2 l2.length c2) l2 from Kd.V_mono hs2 (fun k_ hk => .inl hk))
 have HB := A0_ (Below.refl w.heap.size w)
 have H : ((spec_VoltageValid.f k l0_0 l0_1 a1 l2).bind fun t335 => (if t335 = true then ((spec_l7Vertices.f k l0_0).bind fun t339 => ((spec_l2Names.f k l0_0 l0_1 0).bind fun t342 => ((spec_l1Back.f k t342).bind fun t345 => (if 0 < (t339.length : Int) then (spec_CoverTree.l0 k l2 t339 t345 (([rd t339 0] : List Int)) 0 l0_0 l0_1) else (none))))) else (some ((([] : List (List Int))), false)))) = some (r1, r2) := h
 clear h; obtain ⟨t335, A4, H⟩ := zbind H
 by_cases c5 : t335 = true
 ·subst c5
  have H1 : ((spec_l7Vertices.f k l0_0).bind fun t339 => ((spec_l2Names.f k l0_0 l0_1 0).bind fun t342 => ((spec_l1Back.f k t342).bind fun t345 => (if 0 < (t339.length : Int) then (spec_CoverTree.l0 k l2 t339 t345 (([rd t339 0] : List Int)) 0 l0_0 l0_1) else (none))))) = some (r1, r2) := by rw [if_pos rfl] at H; exact H
  clear H; have H := H1; clear H1; obtain ⟨t339, A6, H⟩ := zbind H; obtain ⟨t342, A7, H⟩ := zbind H; obtain ⟨t345, A8, H⟩ := zbind H
  by_cases c9 : 0 < (t339.length : Int)
  ·rw [if_pos c9] at H
   have c9b0 := dT c9
   have c9b1 : decide (0 < t339.length) = true := dT (by omega)
   clear c9
   obtain ⟨y349, hy349⟩ : ∃ y_ : List Int, y_ = (([rd t339 0] : List Int)) := ⟨_, rfl⟩
   replace H : (spec_CoverTree.l0 k l2 t339 t345 y349 0 l0_0 l0_1) = some (r1, r2) := zH hy349 H
   have Ny349 := A0_ hy349; clear hy349; have H' := A0_ H; clear H
   go_enter Try.func49, Try.ntmps49
   go_wp2_with (first | ((with_reducible refine gD (N := 3) rfl ?_); refine zX (N := 3) (cs := #[.slice A0_0 l0_0.length c0_0, .slice A0_1 l0_1.length c0_1]) (t := 29) ?_; intro gb334 hg w10 hbox hb; replace HO2 := A0_ (Kd.V_below (Kd.V_elderB (by (with_reducible repeat apply Kd.V_alloc); exact HO2.out) gb334 (Nat.le_of_eq hg.symm)) hb); have BK334 := A0_ (hbox); have GW334 := zG hg HB; have GE334 := zG hg HB; replace HB := zB HB hb; clear hb hbox hg; have hcz11_0 := zc0 BK334; have hcz11_1 := zc1 BK334; have hfz11_0 := kF BK334.out 0; have hfz11_1 := kF BK334.out 1) | ((with_reducible refine gC (f := 17) rfl ?_); refine zJ (some 19) Try.func17 #[.agg #[.slice A0_0 l0_0.length c0_0, .slice A0_1 l0_1.length c0_1], .int .i64 a1, .slice A2 l2.length c2] ?_; (with_reducible refine (spec_VoltageValid.calls k _ _ l0_0 _ _ l0_1 a1 _ _ l2 true _ ?side1 ?side2 ?side3 ?side4 ?side5 ?side6 A4.out).mono ?_); (case side1 => exact zC HR0_0 HB); (case side2 => exact HC0_0.out); (case side3 => exact zC HR0_1 HB); (case side4 => exact HC0_1.out); (case side5 => repeat (first | exact (Kd.V_reads' HO2.out).2.2 | (with_reducible refine cA ?_ _))); (case side6 => exact (Kd.V_reads' HO2.out).2.1); rintro e w12 ⟨rfl, hb⟩; refine ⟨_, rfl, ?_⟩; replace HO2 := A0_ (Kd.V_below (by (with_reducible repeat apply Kd.V_alloc); exact HO2.out) hb); replace BK334 := zK BK334 hb; replace HB := zB HB hb; (try clear hb); have hcz13_0 := zc0 BK334; have hcz13_1 := zc1 BK334; have hfz13_0 := kF BK334.out 0; have hfz13_1 := kF BK334.out 1) | ((with_reducible refine gC (f := 82) rfl ?_); refine zJ (some 24) Try.func82 #[.slice A0_0 l0_0.length c0_0] ?_; (with_reducible refine (spec_l7Vertices.calls k _ _ l0_0 t339 _ ?side1 ?side2 A6.out).mono ?_); (case side1 => exact zC HR0_0 HB); (case side2 => exact HC0_0.out); rintro e w14 ⟨v340, rfl, ho0, hb⟩; refine ⟨_, rfl, ?_⟩; replace HO2 := A0_ (Kd.V_elder' (by (with_reducible repeat apply Kd.V_alloc); exact HO2.out) (Kd.R_base ho0) hb); have HO341 := A0_ (rL (Kd.R_newM (M := fun k_ => (w.heap.size ≤ k_)) ho0 (bZ (zB_ HB)) (fun k_ h_ => h_)) (bZ (zB_ HB))); replace BK334 := zK BK334 hb; replace HB := zB HB hb; (try clear hb); (try clear ho0); have hcz15_0 := zc0 BK334; have hcz15_1 := zc1 BK334; have hfz15_0 := kF BK334.out 0; have hfz15_1 := kF BK334.out 1) | ((with_reducible refine gC (f := 86) rfl ?_); refine zJ (some 26) Try.func86 #[.agg #[.slice A0_0 l0_0.length c0_0, .slice A0_1 l0_1.length c0_1], .int .i64 0] ?_; (with_reducible refine (spec_l2Names.calls k _ _ l0_0 _ _ l0_1 0 t342 _ ?side1 ?side2 ?side3 ?side4 A7.out).mono ?_); (case side1 => exact zC HR0_0 HB); (case side2 => exact HC0_0.out); (case side3 => exact zC HR0_1 HB); (case side4 => exact HC0_1.out); rintro e w16 ⟨v343, rfl, ho0, hb⟩; refine ⟨_, rfl, ?_⟩; replace HO2 := A0_ (Kd.V_elder' (by (with_reducible repeat apply Kd.V_alloc); exact HO2.out) (Kd.R_base ho0) hb); have HO344 := A0_ (rL (Kd.R_new' (Kd.R_newM (M := fun k_ => (w.heap.size ≤ k_)) ho0 (bZ (zB_ HB)) (fun k_ h_ => h_)) (rX (zR_ HO341))) (bZ (zB_ HB))); replace HO341 := A0_ (Kd.R_elder' (zR_ HO341) (Kd.R_base ho0) hb); replace BK334 := zK BK334 hb; replace HB := zB HB hb; (try clear hb); (try clear ho0); obtain ⟨Ao17, co17, eo17⟩ := rS HO344.out; subst eo17) | ((with_reducible refine gC (f := 85) rfl ?_); refine zJ (some 27) Try.func85 #[.slice Ao17 t342.length co17] ?_; (with_reducible refine (spec_l1Back.calls k _ _ t342 t345 _ ?side1 ?side2 A8.out).mono ?_); (case side1 => exact zD HO344); (case side2 => exact (rR HO344.out).2.1); rintro e w18 ⟨v346, rfl, ho0, hb⟩; refine ⟨_, rfl, ?_⟩; replace HO2 := A0_ (Kd.V_elder' (by (with_reducible repeat apply Kd.V_alloc); exact HO2.out) (Kd.R_base ho0) hb); have HO347 := A0_ (rL (Kd.R_new' (Kd.R_new' (Kd.R_newM (M := fun k_ => (w.heap.size ≤ k_)) ho0 (bZ (zB_ HB)) (fun k_ h_ => h_)) (rX (zR_ HO341))) (rX (zR_ HO344))) (bZ (zB_ HB))); replace HO341 := A0_ (Kd.R_elder' (zR_ HO341) (Kd.R_base ho0) hb); replace HO344 := A0_ (Kd.R_elder' (zR_ HO344) (Kd.R_base ho0) hb); replace BK334 := zK BK334 hb; replace HB := zB HB hb; (try clear hb); (try clear ho0); obtain ⟨Ao19, co19, eo19⟩ := rS HO341.out; subst eo19; have p348 : 0 ≤ (0 : Int) := (by omega); have q348 : 0 < (t339.length : Int) := zd; obtain ⟨ad348, e348, hx348_0⟩ := tI (rR HO341.out).2.2 0 p348 q348; cases e348; have qi348 : (0 < t339.length) = True := eq_true (by omega); (try rw [show ((0 : Int)).toNat = 0 from rfl] at hx348_0); (try rw [Addr.add_zero'] at hx348_0); replace p348 := eq_true p348; replace q348 := eq_true q348) | ((with_reducible refine gD (N := 31) rfl ?_); refine Kd.R_lit (Kd.int .i64) _ 3 ?hg (N := 31) ?hd (xs := ([rd t339 0] : List Int)) (inner := [.int .i64 (rd t339 0)]) (ok := fun _ => True) (okp := fun _ => True) ?hr ?hp (fun _ hk => hk) trivial (Below.refl _ _) (Nat.le_refl _) (by simp) ?_; (case hd => rfl); (case hg => rfl); (case hr => first | (go_simp; done) | (go_simp; rfl)); (case hp => exact (Reps.one (show Kd.M (Kd.int .i64) _ _ _ (rd t339 0) [.int .i64 (rd t339 0)] from rfl) (Reps.none _ _))); intro v350 w20 ho21 hb hg_ hnew_; clear hg_ hnew_; (first | rw [← Ny349.out] at ho21 | (simp only [Int.reduceToNat] at ho21; rw [← Ny349.out] at ho21)); replace HO2 := A0_ (Kd.V_elder' (by (with_reducible repeat apply Kd.V_alloc); exact HO2.out) (Kd.R_base ho21) hb); have HO351 := A0_ (rL (Kd.R_new' (Kd.R_new' (Kd.R_new' (Kd.R_newM (M := fun k_ => (w.heap.size ≤ k_)) ho21 (bZ (zB_ HB)) (fun k_ h_ => h_)) (rX (zR_ HO341))) (rX (zR_ HO344))) (rX (zR_ HO347))) (bZ (zB_ HB))); replace HO341 := A0_ (Kd.R_elder' (zR_ HO341) (Kd.R_base ho21) hb); replace HO344 := A0_ (Kd.R_elder' (zR_ HO344) (Kd.R_base ho21) hb); replace HO347 := A0_ (Kd.R_elder' (zR_ HO347) (Kd.R_base ho21) hb); replace BK334 := zK BK334 hb; replace HB := zB HB hb; clear hb ho21))
   go_loopg [2, 10, 11] k (fun kq v2 v10 v11 w' => ∃ (x2_1 : List (List Int)) (x10_1 : List Int) (x11_1 : Int), v11 = .int .i64 x11_1 ∧ Aside0 (spec_CoverTree.l0 kq x2_1 t339 t345 x10_1 x11_1 l0_0 l0_1 = some (r1, r2)) ∧ Aside0 (kq ≤ k) ∧ Aside0 (Kd.V (Kd.slice 3 (Kd.int .i64)) 22 w' w.heap.size (fun k_ => (P2_ k_ ∨ w.heap.size ≤ k_) ∧ some k_ ≠ ((.slice (some ad348) t339.length co19) : Value).ownBlock ∧ some k_ ≠ (v346 : Value).ownBlock ∧ some k_ ≠ (v10 : Value).ownBlock ∧ k_ ≠ gb334) v2 x2_1) ∧ Aside0 (Kd.R (Kd.int .i64) 3 w' w.heap.size (fun k_ => (w.heap.size ≤ k_) ∧ some k_ ≠ (v346 : Value).ownBlock ∧ some k_ ≠ (v10 : Value).ownBlock) (.slice (some ad348) t339.length co19) t339) ∧ Aside0 (Kd.R (Kd.int .i64) 3 w' w.heap.size (fun k_ => (w.heap.size ≤ k_) ∧ some k_ ≠ ((.slice (some ad348) t339.length co19) : Value).ownBlock ∧ some k_ ≠ (v10 : Value).ownBlock) v346 t345) ∧ Aside0 (Kd.R (Kd.int .i64) 3 w' w.heap.size (fun k_ => (w.heap.size ≤ k_) ∧ some k_ ≠ ((.slice (some ad348) t339.length co19) : Value).ownBlock ∧ some k_ ≠ (v346 : Value).ownBlock) v10 x10_1) ∧ Aside0 (w'.heap[gb334]? = some (.cells #[(.slice A0_0 l0_0.length c0_0), (.slice A0_1 l0_1.length c0_1)] 29 (0, 0))) ∧ Aside0 (Below w.heap.size w w'))
   case atStart => exact ⟨(l2), (y349), (0), zt, H', ⟨Nat.le_refl _⟩, ⟨by (with_reducible repeat (first | apply Kd.V_alloc | apply Kd.V_drewN | apply Kd.V_drew)); exact Kd.V_mono HO2.out (fun _ hk => ⟨hk.1.1.1.1.1, ⟨hk.1.1.1.2, ⟨hk.1.2, ⟨hk.2, hk.1.1.1.1.2⟩⟩⟩⟩)⟩, ⟨zmR HO341 (fun _ hk => ⟨hk.1.1.1.1, ⟨hk.1.2, hk.2⟩⟩)⟩, ⟨zmR HO347 (fun _ hk => ⟨hk.1.1.1.1, ⟨hk.1.1.2, hk.2⟩⟩)⟩, ⟨zmR HO351 (fun _ hk => ⟨hk.1.1.1.1, ⟨hk.1.1.2, hk.2⟩⟩)⟩, ⟨zK_ BK334⟩, ⟨zB_ HB⟩⟩
   case round =>
    clear H'; (try clear c1); (try clear c2); (try clear p2); (try clear p3); (try clear q3); (try clear hx3); (try clear qi3); (try clear c4); (try clear c5); (try clear c8); (try clear c9); (try clear c9b0); (try clear c9b1); (try clear c17); (try clear hcz11_0); (try clear hcz11_1); (try clear hcz13_0); (try clear hcz13_1); (try clear hcz15_0); (try clear hcz15_1); (try clear hfz11_0); (try clear hfz11_1); (try clear hfz13_0); (try clear hfz13_1); (try clear hfz15_0); (try clear hfz15_1); (try clear hx348_0); (try clear p348); (try clear q348); obtain ⟨x2_1, x10_1, x11_1, rfl, HA, HK1, HO_2, HO_8, HO_9, HO_10, BK334, HB⟩ := hrel
    cases gk with
    | zero => exact absurd HA.out (by simp [spec_CoverTree.l0])
    | succ k1 =>
     have H := HA.out; clear HA; simp only [spec_CoverTree.l0] at H
     by_cases c22 : x11_1 < (t345.length : Int)
     ·rw [if_pos c22] at H
      have c22b0 := dT c22; clear c22
      by_cases c23 : 0 ≤ x11_1
      ·rw [if_pos c23] at H
       have c23b0 := dT c23; clear c23
       by_cases c24 : 0 ≤ (rd t345 x11_1)
       ·rw [if_pos c24] at H
        have c24b0 := dT c24; clear c24
        by_cases c25 : (rd t345 x11_1) < (l0_1.length : Int)
        ·rw [if_pos c25] at H
         have c25b0 := dT c25; clear c25; have HC26 := A0_ H; clear H; obtain ⟨Ao27, co27, eo27⟩ := rS HO_9.out; subst eo27
         have p352 : 0 ≤ (x11_1 : Int) := zd
         have q352 : x11_1 < (t345.length : Int) := zd
         obtain ⟨ad352, e352, hx352_0⟩ := tI (rR HO_9.out).2.2 x11_1 p352 q352
         cases e352
         replace p352 := eq_true p352; replace q352 := eq_true q352; have hcz28_0 := zc0 BK334; have hcz28_1 := zc1 BK334; have hfz28_0 := kF BK334.out 0; have hfz28_1 := kF BK334.out 1
         have p353 : 0 ≤ ((rd t345 x11_1) : Int) := zd
         have q353 : (rd t345 x11_1) < (l0_1.length : Int) := zd
         obtain ⟨ad353, e353, hx353_0⟩ := tI HR0_1.out (rd t345 x11_1) p353 q353
         cases e353
         try replace hx353_0 := (HB.out.cell (wL w _ hx353_0)).trans hx353_0
         replace p353 := eq_true p353; replace q353 := eq_true q353
         go_upto_region 11 with (fail)
         go_cut [61] (fun v61 wc => ∃ (kq : Nat) (x61_25 : Bool), v61 = .bool x61_25 ∧ Aside0 (spec_CoverTree.j1 kq x2_1 t339 t345 x10_1 x11_1 (rd t345 x11_1) (rd l0_1 (rd t345 x11_1)) x61_25 l0_0 l0_1 = some (r1, r2)) ∧ Aside0 (kq ≤ k1) ∧ Aside0 (Kd.V (Kd.slice 3 (Kd.int .i64)) 22 wc w.heap.size (fun k_ => (P2_ k_ ∨ w.heap.size ≤ k_) ∧ some k_ ≠ ((.slice (some ad348) t339.length co19) : Value).ownBlock ∧ some k_ ≠ ((.slice (some ad352) t345.length co27) : Value).ownBlock ∧ some k_ ≠ (u10 : Value).ownBlock ∧ k_ ≠ gb334) u2 x2_1) ∧ Aside0 (Kd.R (Kd.int .i64) 3 wc w.heap.size (fun k_ => (w.heap.size ≤ k_) ∧ some k_ ≠ ((.slice (some ad352) t345.length co27) : Value).ownBlock ∧ some k_ ≠ (u10 : Value).ownBlock) (.slice (some ad348) t339.length co19) t339) ∧ Aside0 (Kd.R (Kd.int .i64) 3 wc w.heap.size (fun k_ => (w.heap.size ≤ k_) ∧ some k_ ≠ ((.slice (some ad348) t339.length co19) : Value).ownBlock ∧ some k_ ≠ (u10 : Value).ownBlock) (.slice (some ad352) t345.length co27) t345) ∧ Aside0 (Kd.R (Kd.int .i64) 3 wc w.heap.size (fun k_ => (w.heap.size ≤ k_) ∧ some k_ ≠ ((.slice (some ad348) t339.length co19) : Value).ownBlock ∧ some k_ ≠ ((.slice (some ad352) t345.length co27) : Value).ownBlock) u10 x10_1) ∧ Aside0 (wc.heap[gb334]? = some (.cells #[(.slice A0_0 l0_0.length c0_0), (.slice (some ad353) l0_1.length c0_1)] 29 (0, 0))) ∧ Aside0 (Below w.heap.size w wc))
         case first =>
          have H := HC26.out; clear HC26
          by_cases c29 : (rd t345 x11_1) < (t339.length : Int)
          ·rw [if_pos c29] at H
           have c29b0 := dT c29; clear c29
           (first | rw [c29b0] | (simp only [i64_w, i32_w]; rw [c29b0]) | skip)
           obtain ⟨t355, A30, H⟩ := zbind H
           by_cases c31 : t355 = true
           ·subst c31
            have H1 : (if 0 ≤ (rd l0_1 (rd t345 x11_1)) then (if (rd l0_1 (rd t345 x11_1)) < (t339.length : Int) then ((spec_l7Has.f k1 x10_1 (rd t339 (rd l0_1 (rd t345 x11_1)))).bind fun t357 => (spec_CoverTree.j1 k1 x2_1 t339 t345 x10_1 x11_1 (rd t345 x11_1) (rd l0_1 (rd t345 x11_1)) (!t357) l0_0 l0_1)) else (none)) else (none)) = some (r1, r2) := by rw [if_pos rfl] at H; exact H
            clear H; have H := H1; clear H1
            by_cases c32 : 0 ≤ (rd l0_1 (rd t345 x11_1))
            ·rw [if_pos c32] at H
             have c32b0 := dT c32; clear c32
             by_cases c33 : (rd l0_1 (rd t345 x11_1)) < (t339.length : Int)
             ·rw [if_pos c33] at H
              have c33b0 := dT c33; clear c33; obtain ⟨t357, A34, H⟩ := zbind H; have H' := A0_ H; clear H
              have p354 : 0 ≤ ((rd t345 x11_1) : Int) := zd
              have q354 : (rd t345 x11_1) < (t339.length : Int) := zd
              obtain ⟨ad354, e354, hx354_0⟩ := tI (rR HO_8.out).2.2 (rd t345 x11_1) p354 q354
              obtain rfl : ad348 = ad354 := (by injection e354)
              replace p354 := eq_true p354; replace q354 := eq_true q354; obtain ⟨Ao35, co35, eo35⟩ := rS HO_10.out; subst eo35
              go_wp2_with (first | ((with_reducible refine gC (f := 78) rfl ?_); refine zJ (some 52) Try.func78 #[.slice Ao35 x10_1.length co35, .int .i64 (rd t339 (rd t345 x11_1))] ?_; (with_reducible refine (spec_l7Has.calls k1 _ _ x10_1 (rd t339 (rd t345 x11_1)) true _ ?side1 ?side2 A30.out).mono ?_); (case side1 => exact zD HO_10); (case side2 => exact (rR HO_10.out).2.1); rintro e w' ⟨rfl, ⟨nd, rfl⟩⟩; refine ⟨_, rfl, ?_⟩; have p356 : 0 ≤ ((rd l0_1 (rd t345 x11_1)) : Int) := zd; have q356 : (rd l0_1 (rd t345 x11_1)) < (t339.length : Int) := zd; obtain ⟨ad356, e356, hx356_0⟩ := tI (rR HO_8.out).2.2 (rd l0_1 (rd t345 x11_1)) p356 q356; obtain rfl : ad348 = ad356 := (by injection e356); replace p356 := eq_true p356; replace q356 := eq_true q356) | (go_at_call 78; (with_reducible refine (spec_l7Has.calls k1 _ _ x10_1 (rd t339 (rd l0_1 (rd t345 x11_1))) t357 _ ?side1 ?side2 A34.out).mono ?_); (case side1 => exact zD HO_10); (case side2 => exact (rR HO_10.out).2.1); rintro e w' ⟨rfl, ⟨nd, rfl⟩⟩))
              go_meet
              case rel => exact ⟨_, (!t357), zt, H', ⟨by have := HK1.out; first | omega | exact Nat.le_refl _⟩, ⟨by (with_reducible repeat (first | apply Kd.V_alloc | apply Kd.V_drewN | apply Kd.V_drew)); exact HO_2.out⟩, ⟨zR_ HO_8⟩, ⟨zR_ HO_9⟩, ⟨zR_ HO_10⟩, ⟨zK_ BK334⟩, ⟨zB_ HB⟩⟩
             rw [if_neg c33] at H
             exact absurd H (by simp)
            rw [if_neg c32] at H
            exact absurd H (by simp)
           replace c31 := Bool.eq_false_iff.mpr c31; subst c31
           have H1 : (spec_CoverTree.j1 k1 x2_1 t339 t345 x10_1 x11_1 (rd t345 x11_1) (rd l0_1 (rd t345 x11_1)) false l0_0 l0_1) = some (r1, r2) := by rw [if_neg (show ¬ (false = true) by decide)] at H; exact H
           clear H; have H := H1; clear H1; have H' := A0_ H; clear H
           have p354 : 0 ≤ ((rd t345 x11_1) : Int) := zd
           have q354 : (rd t345 x11_1) < (t339.length : Int) := zd
           obtain ⟨ad354, e354, hx354_0⟩ := tI (rR HO_8.out).2.2 (rd t345 x11_1) p354 q354
           obtain rfl : ad348 = ad354 := (by injection e354)
           replace p354 := eq_true p354; replace q354 := eq_true q354; obtain ⟨Ao36, co36, eo36⟩ := rS HO_10.out; subst eo36
           go_wp2_with (first | ((with_reducible refine gC (f := 78) rfl ?_); refine zJ (some 52) Try.func78 #[.slice Ao36 x10_1.length co36, .int .i64 (rd t339 (rd t345 x11_1))] ?_; (with_reducible refine (spec_l7Has.calls k1 _ _ x10_1 (rd t339 (rd t345 x11_1)) false _ ?side1 ?side2 A30.out).mono ?_); (case side1 => exact zD HO_10); (case side2 => exact (rR HO_10.out).2.1); rintro e w' ⟨rfl, ⟨nd, rfl⟩⟩; refine ⟨_, rfl, ?_⟩))
           go_meet
           case rel => exact ⟨_, (false), zt, H', ⟨by have := HK1.out; first | omega | exact Nat.le_refl _⟩, ⟨by (with_reducible repeat (first | apply Kd.V_alloc | apply Kd.V_drewN | apply Kd.V_drew)); exact HO_2.out⟩, ⟨zR_ HO_8⟩, ⟨zR_ HO_9⟩, ⟨zR_ HO_10⟩, ⟨zK_ BK334⟩, ⟨zB_ HB⟩⟩
          rw [if_neg c29] at H
          exact absurd H (by simp)
         case rest =>
          clear HC26; (try clear c1); (try clear c2); (try clear p2); (try clear c3); (try clear p3); (try clear q3); (try clear hx3); (try clear qi3); (try clear c4); (try clear c5); (try clear c7); (try clear c8); (try clear c9); (try clear c9b0); (try clear c9b1); (try clear c17); (try clear c22); (try clear c22b0); (try clear c23); (try clear c23b0); (try clear c24); (try clear c24b0); (try clear c25); (try clear c25b0); (try clear c29); (try clear c29b0); (try clear c31); (try clear c32); (try clear c32b0); (try clear c33); (try clear c33b0); (try clear p34); (try clear q34); (try clear hx34); (try clear qi34); (try clear p35); (try clear q35); (try clear hx35); (try clear hcz11_0); (try clear hcz11_1); (try clear hcz13_0); (try clear hcz13_1); (try clear hcz15_0); (try clear hcz15_1); (try clear hcz28_0); (try clear hcz28_1); (try clear hfz11_0); (try clear hfz11_1); (try clear hfz13_0); (try clear hfz13_1); (try clear hfz15_0); (try clear hfz15_1); (try clear hfz28_0); (try clear hfz28_1); (try clear hx348_0); (try clear hx352_0); (try clear hx353_0); (try clear hx354_0); (try clear hx356_0); (try clear p2); (try clear p3); (try clear p348); (try clear p352); (try clear p353); (try clear p354); (try clear p356); (try clear q3); (try clear q348); (try clear q352); (try clear q353); (try clear q354); (try clear q356); obtain ⟨kq, x61_25, rfl, HA, HJ25, HO_2, HO_8, HO_9, HO_10, BK334, HB⟩ := hcut
          cases kq with
          | zero => exact absurd HA.out (by simp [spec_CoverTree.j1])
          | succ kj25 =>
           have H := HA.out; clear HA; simp only [spec_CoverTree.j1] at H
           by_cases c37 : x61_25 = true
           ·subst c37
            have H1 : (if 0 ≤ (rd l0_1 (rd t345 x11_1)) then (if (rd l0_1 (rd t345 x11_1)) < (t339.length : Int) then ((spec_l9Volt.f kj25 l0_0 l0_1 x2_1 (rd t345 x11_1)).bind fun t359 => ((spec_l1Back.f kj25 t359).bind fun t362 => ((spec_l9Conj.f kj25 l0_0 l0_1 x2_1 (rd t339 (rd l0_1 (rd t345 x11_1))) t362).bind fun t365 => (if x10_1.length < 17592186044416 then (spec_CoverTree.l0 kj25 t365 t339 t345 (x10_1 ++ [rd t339 (rd l0_1 (rd t345 x11_1))]) (wrap64 (x11_1 + 1)) l0_0 l0_1) else (none))))) else (none)) else (none)) = some (r1, r2) := by rw [if_pos rfl] at H; exact H
            clear H; have H := H1; clear H1
            by_cases c38 : 0 ≤ (rd l0_1 (rd t345 x11_1))
            ·rw [if_pos c38] at H
             have c38b0 := dT c38; clear c38
             by_cases c39 : (rd l0_1 (rd t345 x11_1)) < (t339.length : Int)
             ·rw [if_pos c39] at H
              have c39b0 := dT c39; clear c39; obtain ⟨t359, A40, H⟩ := zbind H; obtain ⟨t362, A41, H⟩ := zbind H; obtain ⟨t365, A42, H⟩ := zbind H
              by_cases c43 : x10_1.length < 17592186044416
              ·rw [if_pos c43] at H
               have LMc43 := A0_ c43; clear c43
               obtain ⟨y369, hy369⟩ : ∃ y_ : List Int, y_ = (x10_1 ++ [rd t339 (rd l0_1 (rd t345 x11_1))]) := ⟨_, rfl⟩
               replace H : (spec_CoverTree.l0 kj25 t365 t339 t345 y369 (wrap64 (x11_1 + 1)) l0_0 l0_1) = some (r1, r2) := zH hy369 H
               have Ny369 := A0_ hy369; clear hy369; have H' := A0_ H; clear H
               try go_wp2
               replace HO_2 := A0_ (Kd.V_drew HO_2.out)
               replace HO_8 := A0_ (rD HO_8.out)
               replace HO_9 := A0_ (rD HO_9.out)
               replace HO_10 := A0_ (rD HO_10.out)
               replace BK334 := A0_ (kD BK334.out)
               replace HB := A0_ (bD HB.out)
               have p358 : 0 ≤ ((rd l0_1 (rd t345 x11_1)) : Int) := zd
               have q358 : (rd l0_1 (rd t345 x11_1)) < (t339.length : Int) := zd
               obtain ⟨ad358, e358, hx358_0⟩ := tI (rR HO_8.out).2.2 (rd l0_1 (rd t345 x11_1)) p358 q358
               obtain rfl : ad348 = ad358 := (by injection e358)
               replace p358 := eq_true p358; replace q358 := eq_true q358; obtain ⟨Ao45, co45, eo45⟩ := Kd.V_slice HO_2.out
               (first | subst eo45 | (injection eo45 with f1_ f2_ f3_; have f4_ := f1_.symm; have f5_ := f3_.symm; clear f1_ f2_ f3_; subst f4_; subst f5_))
               refine start_ (n := 13) (S := fun w' => w'.cell? ⟨gb334, 0, none⟩ = some (.slice A0_0 l0_0.length c0_0) ∧ w'.cell? ⟨gb334, 1, none⟩ = some (.slice (some ad353) l0_1.length c0_1) ∧ w'.cell? (ad348.add ((rd l0_1 (rd t345 x11_1))).toNat) = some (.int .i64 (rd t339 (rd l0_1 (rd t345 x11_1))))) (ds := []) #[false, false, false, false, false, false, false, false, false, false, false, false, false] (by kernel_rfl) rfl rfl ⟨(kC BK334.out 0).trans rfl, (kC BK334.out 1).trans rfl, hx358_0⟩ (fun hHeld => ?_); refine with_tabW spec_CoverTree.tab12 spec_CoverTree.bits12 (fun HT_ HW_ => ?_)
               generalize wc.drew = w44 at HO_2 HO_8 HO_9 HO_10 BK334 HB hx358_0 hHeld ⊢
               refine zP 1 (some 63) #[false,true,false,false,false,false,false,false,false,false,false,false,false] ?_
               refine zP 2 (some 64) #[false,true,true,false,false,false,false,false,false,false,false,false,false] ?_
               refine zP 3 (some 65) #[false,true,true,true,false,false,false,false,false,false,false,false,false] ?_
               refine zP 4 (some 66) #[false,true,true,true,true,false,false,false,false,false,false,false,false] ?_
               refine zP 7 (some 69) #[false,true,true,true,true,false,false,true,false,false,false,false,false] ?_
               refine zP 8 (some 70) #[false,true,true,true,true,false,false,true,true,false,false,false,false] ?_
               refine take_ (i := 0) (N := some 62) (v := ?_) (a' := ?_) #[true, true, true, true, true, false, false, true, true, false, false, false, false] rfl rfl (take_ofW HT_.out HW_.out (by kernel_rfl)) (fun _ _ _ h => h) (Or.inl ⟨by rfl, ?_⟩) hHeld ?_ ?_
               rotate_left
               ·rintro w' ⟨s0, s1, s2⟩
                go_simp
                with_reducible rfl
               rotate_left
               ·simp only [Act.put, List.setIfInBounds_toArray, List.set_cons_zero, List.set_cons_succ, i64_w, i32_w]
                rfl
               refine take_ (i := 5) (N := some 67) (v := ?_) (a' := ?_) #[true, true, true, true, true, true, false, true, true, false, false, false, false] rfl rfl (take_ofW HT_.out HW_.out (by kernel_rfl)) (fun _ _ _ h => h) (Or.inl ⟨by rfl, ?_⟩) hHeld ?_ ?_
               rotate_left
               ·rintro w' ⟨s0, s1, s2⟩
                go_simp
                with_reducible rfl
               rotate_left
               ·simp only [Act.put, List.setIfInBounds_toArray, List.set_cons_zero, List.set_cons_succ, i64_w, i32_w]
                rfl
               refine take_ (i := 6) (N := some 68) (v := ?_) (a' := ?_) #[true, true, true, true, true, true, true, true, true, false, false, false, false] rfl rfl (take_ofW HT_.out HW_.out (by kernel_rfl)) (fun _ _ _ h => h) (Or.inl ⟨by rfl, ?_⟩) hHeld ?_ ?_
               rotate_left
               ·rintro w' ⟨s0, s1, s2⟩
                go_simp
                with_reducible rfl
               rotate_left
               ·simp only [Act.put, List.setIfInBounds_toArray, List.set_cons_zero, List.set_cons_succ, i64_w, i32_w]
                rfl
               refine one_ (i := 9) (N := some 71) #[true, true, true, true, true, true, true, true, true, true, false, false, false] rfl rfl (one_of HT_.out (by kernel_rfl)) (by decide) (fun K hK => ?_)
               refine goes_ Try.func87 (by kernel_rfl) rfl #[.agg #[.slice A0_0 l0_0.length c0_0, .slice (some ad353) l0_1.length c0_1], .slice Ao45 x2_1.length co45, .int .i64 (rd t345 x11_1)] (by rfl) rfl rfl (by (try simp only [List.map_toArray, List.map_cons, List.map_nil]); first | done | rfl | (simp only [List.length_drop, List.length_take]; rfl)) ?_
               with_reducible refine (spec_l9Volt.calls kj25 _ _ l0_0 _ _ l0_1 (fun k_ => ((P2_ k_ ∨ w.heap.size ≤ k_) ∧ (some k_ ≠ (.slice (some ad348) t339.length co19 : Value).ownBlock ∧ (some k_ ≠ (.slice (some ad352) t345.length co27 : Value).ownBlock ∧ (some k_ ≠ (u10 : Value).ownBlock ∧ k_ ≠ gb334))))) _ _ x2_1 (rd t345 x11_1) t359 _ ?side1 ?side2 ?side3 ?side4 ?side5 A40.out).mono ?_
               (case side1 => exact zC HR0_0 HB)
               (case side2 => exact HC0_0.out)
               (case side3 => exact zC HR0_1 HB)
               (case side4 => exact HC0_1.out)
               (case side5 => exact HO_2.out)
               rintro e w46 ⟨v360, rfl, ho0, hb⟩
               have HS2_ := (hb.cell (wL _ _ (hHeld.2.2))).trans (hHeld.2.2)
               refine ⟨_, rfl, ?_⟩
               replace HO_2 := A0_ (Kd.V_below (by (with_reducible repeat (first | apply Kd.V_alloc | apply Kd.V_drewN | apply Kd.V_drew)); exact HO_2.out) hb)
               have HO361 := A0_ (Kd.V_lower (Kd.V_mono (ok' := fun k_ => (P2_ k_ ∨ w.heap.size ≤ k_) ∧ some k_ ≠ (.slice (some ad348) t339.length co19 : Value).ownBlock ∧ some k_ ≠ (.slice (some ad352) t345.length co27 : Value).ownBlock ∧ some k_ ≠ (u10 : Value).ownBlock ∧ k_ ≠ gb334) ho0 (fun k_ hk_ => ⟨Or.elim hk_ (fun hs_ => hs_.1) (fun hn_ => (.inr (Nat.le_trans (bZ (zB_ HB)) hn_))), Or.elim hk_ (fun hs_ => hs_.2.1) (fun hn_ => (Kd.fresh' (rX (zR_ HO_8)) k_ hn_)), Or.elim hk_ (fun hs_ => hs_.2.2.1) (fun hn_ => (Kd.fresh' (rX (zR_ HO_9)) k_ hn_)), Or.elim hk_ (fun hs_ => hs_.2.2.2.1) (fun hn_ => (Kd.fresh' (rX (zR_ HO_10)) k_ hn_)), Or.elim hk_ (fun hs_ => hs_.2.2.2.2) (fun hn_ => (Kd.freshB (g := gb334) (o := .cells #[.slice A0_0 l0_0.length c0_0, .slice (some ad353) l0_1.length c0_1] 29 (0, 0)) (zK_ BK334) k_ hn_))⟩)) (bZ (zB_ HB)))
               replace HO_8 := zR HO_8 hb; replace HO_9 := zR HO_9 hb; replace HO_10 := zR HO_10 hb; replace BK334 := zK BK334 hb; replace HB := zB HB hb; (try clear hb); (try clear hb2); (try clear hk); (try clear hi); (try clear ho0); obtain ⟨Ao47, co47, eo47⟩ := Kd.V_slice HO361.out
               (first | subst eo47 | (injection eo47 with f1_ f2_ f3_; have f4_ := f1_.symm; have f5_ := f3_.symm; clear f1_ f2_ f3_; subst f4_; subst f5_))
               refine hK.out _ _ ⟨(kC BK334.out 0).trans rfl, (kC BK334.out 1).trans rfl, HS2_⟩ (fun hHeld => ?_)
               clear hK K
               refine norm_ (a' := ?_) ?_ ?_
               rotate_left
               ·show Act.put _ (some 71) _ = _
                simp only [Act.put, List.setIfInBounds_toArray, List.set_cons_zero, List.set_cons_succ, i64_w, i32_w]
                rfl
               refine one_ (i := 10) (N := some 72) #[true, true, true, true, true, true, true, true, true, true, true, false, false] rfl rfl (one_of HT_.out (by kernel_rfl)) (by decide) (fun K hK => ?_)
               refine goes_ Try.func85 (by kernel_rfl) rfl #[.slice Ao47 t359.length co47] (by rfl) rfl rfl (by (try simp only [List.map_toArray, List.map_cons, List.map_nil]); first | done | rfl | (simp only [List.length_drop, List.length_take]; rfl)) ?_
               with_reducible refine (spec_l1Back.calls kj25 _ _ t359 t362 _ ?side1 ?side2 A41.out).mono ?_
               (case side1 => repeat (first | exact (Kd.V_reads' HO361.out).2.2 | (with_reducible refine cA ?_ _) | (with_reducible refine cN ?_ _) | (with_reducible refine cD ?_)))
               (case side2 => exact (Kd.V_reads' HO361.out).2.1)
               rintro e w48 ⟨v363, rfl, ho0, hb⟩
               have HS2_ := (hb.cell (wL _ _ (hHeld.2.2))).trans (hHeld.2.2)
               refine ⟨_, rfl, ?_⟩
               replace HO_2 := A0_ (Kd.V_elder' (by (with_reducible repeat (first | apply Kd.V_alloc | apply Kd.V_drewN | apply Kd.V_drew)); exact HO_2.out) (Kd.R_base ho0) hb)
               replace HO361 := A0_ (Kd.V_elder' (by (with_reducible repeat (first | apply Kd.V_alloc | apply Kd.V_drewN | apply Kd.V_drew)); exact HO361.out) (Kd.R_base ho0) hb)
               have HO364 := A0_ (rL (Kd.R_new' (Kd.R_new' (Kd.R_new' (Kd.R_newM (M := fun k_ => (w.heap.size ≤ k_)) ho0 (bZ (zB_ HB)) (fun k_ h_ => h_)) (rX (zR_ HO_8))) (rX (zR_ HO_9))) (rX (zR_ HO_10))) (bZ (zB_ HB)))
               replace HO_8 := A0_ (Kd.R_elder' (zR_ HO_8) (Kd.R_base ho0) hb)
               replace HO_9 := A0_ (Kd.R_elder' (zR_ HO_9) (Kd.R_base ho0) hb)
               replace HO_10 := A0_ (Kd.R_elder' (zR_ HO_10) (Kd.R_base ho0) hb)
               replace BK334 := zK BK334 hb; replace HB := zB HB hb; (try clear hb); (try clear hb2); (try clear hk); (try clear hi); (try clear ho0); obtain ⟨Ao49, co49, eo49⟩ := rS HO364.out
               (first | subst eo49 | (injection eo49 with f1_ f2_ f3_; have f4_ := f1_.symm; have f5_ := f3_.symm; clear f1_ f2_ f3_; subst f4_; subst f5_))
               refine hK.out _ _ ⟨(kC BK334.out 0).trans rfl, (kC BK334.out 1).trans rfl, HS2_⟩ (fun hHeld => ?_)
               clear hK K
               refine norm_ (a' := ?_) ?_ ?_
               rotate_left
               ·show Act.put _ (some 72) _ = _
                simp only [Act.put, List.setIfInBounds_toArray, List.set_cons_zero, List.set_cons_succ, i64_w, i32_w]
                rfl
               refine one_ (i := 11) (N := some 73) #[true, true, true, true, true, true, true, true, true, true, true, true, false] rfl rfl (one_of HT_.out (by kernel_rfl)) (by decide) (fun K hK => ?_)
               refine goes_ Try.func81 (by kernel_rfl) rfl #[.agg #[.slice A0_0 l0_0.length c0_0, .slice (some ad353) l0_1.length c0_1], .slice Ao45 x2_1.length co45, .int .i64 (rd t339 (rd l0_1 (rd t345 x11_1))), .slice Ao49 t362.length co49] (by rfl) rfl rfl (by (try simp only [List.map_toArray, List.map_cons, List.map_nil]); first | done | rfl | (simp only [List.length_drop, List.length_take]; rfl)) ?_
               with_reducible refine (spec_l9Conj.calls kj25 _ _ l0_0 _ _ l0_1 _ _ x2_1 (rd t339 (rd l0_1 (rd t345 x11_1))) _ _ t362 t365 _ ?side1 ?side2 ?side3 ?side4 ?side5 ?side6 ?side7 ?side8 A42.out).mono ?_
               (case side1 => exact zC HR0_0 HB)
               (case side2 => exact HC0_0.out)
               (case side3 => exact zC HR0_1 HB)
               (case side4 => exact HC0_1.out)
               (case side5 => repeat (first | exact (Kd.V_reads' HO_2.out).2.2 | (with_reducible refine cA ?_ _) | (with_reducible refine cN ?_ _) | (with_reducible refine cD ?_)))
               (case side6 => exact (Kd.V_reads' HO_2.out).2.1)
               (case side7 => exact zD HO364)
               (case side8 => exact (rR HO364.out).2.1)
               rintro e w50 ⟨v366, rfl, ho0, hb⟩
               have HS2_ := (hb.cell (wL _ _ (hHeld.2.2))).trans (hHeld.2.2)
               refine ⟨_, rfl, ?_⟩
               replace HO_2 := A0_ (Kd.V_elder' (by (with_reducible repeat (first | apply Kd.V_alloc | apply Kd.V_drewN | apply Kd.V_drew)); exact HO_2.out) (Kd.S_base ho0) hb)
               replace HO361 := A0_ (Kd.V_elder' (by (with_reducible repeat (first | apply Kd.V_alloc | apply Kd.V_drewN | apply Kd.V_drew)); exact HO361.out) (Kd.S_base ho0) hb)
               have HO367 := A0_ (Kd.S_lower (Kd.S_new' (Kd.S_new' (Kd.S_new' (Kd.S_new' (Kd.S_newM (M := fun k_ => (w.heap.size ≤ k_)) ho0 (bZ (zB_ HB)) (fun k_ h_ => h_)) (rX (zR_ HO_8))) (rX (zR_ HO_9))) (rX (zR_ HO_10))) (rX (zR_ HO364))) (bZ (zB_ HB)))
               replace HO_8 := zR HO_8 hb; replace HO_9 := zR HO_9 hb; replace HO_10 := zR HO_10 hb; replace HO364 := zR HO364 hb; replace BK334 := zK BK334 hb; replace HB := zB HB hb; (try clear hb); (try clear hb2); (try clear hk); (try clear hi); (try clear ho0)
               refine hK.out _ _ ⟨(kC BK334.out 0).trans rfl, (kC BK334.out 1).trans rfl, HS2_⟩ (fun hHeld => ?_)
               clear hK K
               refine norm_ (a' := ?_) ?_ ?_
               rotate_left
               ·show Act.put _ (some 73) _ = _
                simp only [Act.put, List.setIfInBounds_toArray, List.set_cons_zero, List.set_cons_succ, i64_w, i32_w]
                rfl
               refine zP 12 (some 2) #[true,true,true,true,true,true,true,true,true,true,true,true,true] ?_
               refine done_ (done_of HT_.out (by kernel_rfl)) ?_
               have p368 : 0 ≤ ((rd l0_1 (rd t345 x11_1)) : Int) := zd
               have q368 : (rd l0_1 (rd t345 x11_1)) < (t339.length : Int) := zd
               obtain ⟨ad368, e368, hx368_0⟩ := tI (rR HO_8.out).2.2 (rd l0_1 (rd t345 x11_1)) p368 q368
               obtain rfl : ad348 = ad368 := (by injection e368)
               replace p368 := eq_true p368; replace q368 := eq_true q368
               try go_wp2_with (first | ((with_reducible refine gB (b := .append) (xs := #[.tmp 74, .tmp 79]) rfl ?_); at_builtin; refine Kd.R_append (Kd.int .i64) (w0 := w) w.heap.size rfl (.tmp 74) (.tmp 79) 22 3 (.int .i64 0) 8 rfl Try.underlying22 info3 rfl (by decide) (by omega) u10 x10_1 (rd t339 (rd l0_1 (rd t345 x11_1))) [.int .i64 (rd t339 (rd l0_1 (rd t345 x11_1)))] (fun k_ => (w.heap.size ≤ k_) ∧ some k_ ≠ (.slice (some ad348) t339.length co19 : Value).ownBlock ∧ some k_ ≠ (.slice (some ad352) t345.length co27 : Value).ownBlock ∧ some k_ ≠ (.slice Ao49 t362.length co49 : Value).ownBlock) (fun _ => False) rfl rfl ?aP (fun _ hk => hk.elim) ?aF ?aO ?aB ?aS ?aL ?_; (case aP => exact rfl); (case aB => exact (zB_ HB)); (case aF => exact (fun k_ hk => ⟨(Nat.le_trans (bZ (zB_ HB)) hk), Kd.fresh' (rX (zR_ HO_8)) k_ hk, Kd.fresh' (rX (zR_ HO_9)) k_ hk, Kd.fresh' (rX (zR_ HO364)) k_ hk⟩)); (case aO => exact (zmR HO_10 (fun _ hk => ⟨hk.1.1, ⟨hk.1.2.1, ⟨hk.1.2.2, hk.2⟩⟩⟩))); (case aS => exact (bZ (zB_ HB))); (case aL => have := LMc43.out; omega); intro v370 w51 ho hb hg hat; rw [← Ny369.out] at ho; replace HO_2 := A0_ (Kd.V_afterv (ok := (fun k_ => (P2_ k_ ∨ w.heap.size ≤ k_) ∧ some k_ ≠ (.slice (some ad348) t339.length co19 : Value).ownBlock ∧ some k_ ≠ (.slice (some ad352) t345.length co27 : Value).ownBlock ∧ some k_ ≠ (.slice Ao49 t362.length co49 : Value).ownBlock ∧ some k_ ≠ (v366 : Value).ownBlock ∧ k_ ≠ gb334)) (by (with_reducible repeat apply Kd.V_alloc); exact Kd.V_mono HO_2.out (fun _ hk => ⟨⟨hk.1.1.1, ⟨hk.1.1.2.1, ⟨hk.1.1.2.2.1, ⟨hk.1.2, ⟨hk.2, hk.1.1.2.2.2.2⟩⟩⟩⟩⟩, hk.1.1.2.2.2.1⟩)) hg hat); replace HO_8 := A0_ (Kd.R_after (ok := (fun k_ => (w.heap.size ≤ k_) ∧ some k_ ≠ (.slice (some ad352) t345.length co27 : Value).ownBlock ∧ some k_ ≠ (.slice Ao49 t362.length co49 : Value).ownBlock)) (zmR HO_8 (fun _ hk => ⟨⟨hk.1.1, ⟨hk.1.2.1, hk.2⟩⟩, hk.1.2.2⟩)) hg hat); replace HO_9 := A0_ (Kd.R_after (ok := (fun k_ => (w.heap.size ≤ k_) ∧ some k_ ≠ (.slice (some ad348) t339.length co19 : Value).ownBlock ∧ some k_ ≠ (.slice Ao49 t362.length co49 : Value).ownBlock)) (zmR HO_9 (fun _ hk => ⟨⟨hk.1.1, ⟨hk.1.2.1, hk.2⟩⟩, hk.1.2.2⟩)) hg hat); replace BK334 := A0_ (blk_grown (g := gb334) (o := .cells #[.slice A0_0 l0_0.length c0_0, .slice (some ad353) l0_1.length c0_1] 29 (0, 0)) (zK_ BK334) hg (Kd.R_ne HO_10.out BK334.out (by decide))); replace HO361 := A0_ (Kd.V_afterv (ok := (fun k_ => (P2_ k_ ∨ w.heap.size ≤ k_) ∧ some k_ ≠ (.slice (some ad348) t339.length co19 : Value).ownBlock ∧ some k_ ≠ (.slice (some ad352) t345.length co27 : Value).ownBlock ∧ some k_ ≠ (.slice Ao49 t362.length co49 : Value).ownBlock ∧ some k_ ≠ (v366 : Value).ownBlock ∧ k_ ≠ gb334)) (by (with_reducible repeat apply Kd.V_alloc); exact Kd.V_mono HO361.out (fun _ hk => ⟨⟨hk.1.1.1, ⟨hk.1.1.2.1, ⟨hk.1.1.2.2.1, ⟨hk.1.2, ⟨hk.2, hk.1.1.2.2.2.2⟩⟩⟩⟩⟩, hk.1.1.2.2.2.1⟩)) hg hat); replace HO364 := A0_ (Kd.R_after (ok := (fun k_ => (w.heap.size ≤ k_) ∧ some k_ ≠ (.slice (some ad348) t339.length co19 : Value).ownBlock ∧ some k_ ≠ (.slice (some ad352) t345.length co27 : Value).ownBlock)) (zmR HO364 (fun _ hk => ⟨⟨hk.1.1.1.1, ⟨hk.1.1.2, hk.1.2⟩⟩, hk.2⟩)) hg hat); replace HO367 := A0_ (Kd.S_after (ok := (fun k_ => (w.heap.size ≤ k_) ∧ some k_ ≠ (.slice (some ad348) t339.length co19 : Value).ownBlock ∧ some k_ ≠ (.slice (some ad352) t345.length co27 : Value).ownBlock ∧ some k_ ≠ (.slice Ao49 t362.length co49 : Value).ownBlock)) (zmS HO367 (fun _ hk => ⟨⟨hk.1.1.1.1.1, ⟨hk.1.1.1.2, ⟨hk.1.1.2, hk.2⟩⟩⟩, hk.1.2⟩)) hg hat); replace HB := A0_ (hb); have HO371 := A0_ (ho); clear HO_10 ho hb hg hat))
               go_roundg kj25
               case measure => have := HK1.out; have := HJ25.out; omega
               case rel => exact ⟨(t365), (y369), (wrap64 (x11_1 + 1)), zt, H', ⟨by have := HK1.out; have := HJ25.out; omega⟩, ⟨Kd.V_mono (Kd.S_V (ok := fun k_ => (w.heap.size ≤ k_) ∧ some k_ ≠ ((.slice (some ad348) t339.length co19) : Value).ownBlock ∧ some k_ ≠ ((.slice (some ad352) t345.length co27) : Value).ownBlock ∧ some k_ ≠ (v370 : Value).ownBlock ∧ k_ ≠ gb334) (by (with_reducible repeat (first | apply sA | apply sN | apply sD)); exact sM (Kd.S_types HO367.out BK334.out (by decide)) (fun _ hk => ⟨hk.1.1.1, ⟨hk.1.1.2.1, ⟨hk.1.1.2.2.1, ⟨hk.1.2, hk.2⟩⟩⟩⟩))) (fun k_ hk => by first | exact ⟨(.inr (hk.1)), hk.2⟩ | exact (.inr (hk)))⟩, ⟨zmR HO_8 (fun _ hk => ⟨hk.1.1, ⟨hk.1.2.1, hk.2⟩⟩)⟩, ⟨zmR HO_9 (fun _ hk => ⟨hk.1.1, ⟨hk.1.2.1, hk.2⟩⟩)⟩, ⟨zmR HO371 (fun _ hk => ⟨hk.1, ⟨hk.2.1, hk.2.2.1⟩⟩)⟩, ⟨zK_ BK334⟩, ⟨zB_ HB⟩⟩
              rw [if_neg c43] at H
              exact absurd H (by simp)
             rw [if_neg c39] at H
             exact absurd H (by simp)
            rw [if_neg c38] at H
            exact absurd H (by simp)
           replace c37 := Bool.eq_false_iff.mpr c37; subst c37
           have H1 : (spec_CoverTree.l0 kj25 x2_1 t339 t345 x10_1 (wrap64 (x11_1 + 1)) l0_0 l0_1) = some (r1, r2) := by rw [if_neg (show ¬ (false = true) by decide)] at H; exact H
           clear H; have H := H1; clear H1; have H' := A0_ H; clear H
           go_wp2
           go_roundg kj25
           case measure => have := HK1.out; have := HJ25.out; omega
           case rel => exact ⟨(x2_1), (x10_1), (wrap64 (x11_1 + 1)), zt, H', ⟨by have := HK1.out; have := HJ25.out; omega⟩, ⟨by (with_reducible repeat (first | apply Kd.V_alloc | apply Kd.V_drewN | apply Kd.V_drew)); exact HO_2.out⟩, ⟨zR_ HO_8⟩, ⟨zR_ HO_9⟩, ⟨zR_ HO_10⟩, ⟨zK_ BK334⟩, ⟨zB_ HB⟩⟩
        rw [if_neg c25] at H
        exact absurd H (by simp)
       rw [if_neg c24] at H
       exact absurd H (by simp)
      rw [if_neg c23] at H
      exact absurd H (by simp)
     rw [if_neg c22] at H; have c22b0 := dF c22; clear c22
     obtain ⟨y372, hy372⟩ : ∃ y_ : List (List Int), y_ = (([] : List (List Int))) := ⟨_, rfl⟩
     replace H : (spec_CoverTree.l1 k1 x2_1 y372 0) = some (r1, r2) := zH hy372 H
     have Ny372 := A0_ hy372; clear hy372; have H' := A0_ H; clear H; obtain ⟨Ao52, co52, eo52⟩ := rS HO_9.out; subst eo52
     go_wp2_with (first | ((with_reducible refine gD (N := 81) rfl ?_); refine Kd.S_lit (Kd.slice 3 (Kd.int .i64)) _ 22 ?hg (N := 81) ?hd (xs := ([] : List (List Int))) (inner := []) (ok := fun _ => True) (okp := fun _ => True) ?hr ?hp (fun _ hk => hk) trivial (Below.refl _ _) (Nat.le_refl _) (by simp) ?_; (case hd => rfl); (case hg => rfl); (case hr => first | (go_simp; done) | (go_simp; rfl)); (case hp => exact (Reps.none _ _)); intro v373 w53 ho54 hb hg_ hnew_; clear hg_ hnew_; (first | rw [← Ny372.out] at ho54 | (simp only [Int.reduceToNat] at ho54; rw [← Ny372.out] at ho54)); replace HO_2 := A0_ (Kd.V_elder' (by (with_reducible repeat apply Kd.V_alloc); exact HO_2.out) (Kd.S_base ho54) hb); have HO374 := A0_ (Kd.S_lower (Kd.S_new' (Kd.S_new' (Kd.S_new' (Kd.S_newM (M := fun k_ => (w.heap.size ≤ k_)) ho54 (bZ (zB_ HB)) (fun k_ h_ => h_)) (rX (zR_ HO_8))) (rX (zR_ HO_9))) (rX (zR_ HO_10))) (bZ (zB_ HB))); replace HO_8 := zR HO_8 hb; replace HO_9 := zR HO_9 hb; replace HO_10 := zR HO_10 hb; replace BK334 := zK BK334 hb; replace HB := zB HB hb; clear hb ho54))
     go_loopg [14, 15] k1 (fun kq v14 v15 w' => ∃ (x14_2 : List (List Int)) (x15_2 : Int), v15 = .int .i64 x15_2 ∧ Aside0 (spec_CoverTree.l1 kq x2_1 x14_2 x15_2 = some (r1, r2)) ∧ Aside0 (kq ≤ k1) ∧ Aside0 (Kd.V (Kd.slice 3 (Kd.int .i64)) 22 w' w.heap.size (fun k_ => (P2_ k_ ∨ w.heap.size ≤ k_) ∧ some k_ ≠ (v14 : Value).ownBlock ∧ k_ ≠ gb334) u2 x2_1) ∧ Aside0 (Kd.S (Kd.slice 3 (Kd.int .i64)) 22 w' w.heap.size (fun k_ => (w.heap.size ≤ k_)) v14 x14_2) ∧ Aside0 (w'.heap[gb334]? = some (.cells #[(.slice A0_0 l0_0.length c0_0), (.slice A0_1 l0_1.length c0_1)] 29 (0, 0))) ∧ Aside0 (Below w.heap.size w w'))
     case atStart => exact ⟨(y372), (0), zt, H', ⟨Nat.le_refl _⟩, ⟨by (with_reducible repeat (first | apply Kd.V_alloc | apply Kd.V_drewN | apply Kd.V_drew)); exact Kd.V_mono HO_2.out (fun _ hk => ⟨hk.1.1, ⟨hk.2, hk.1.2.2.2.2⟩⟩)⟩, ⟨zmS HO374 (fun _ hk => hk.1.1.1.1)⟩, ⟨zK_ BK334⟩, ⟨zB_ HB⟩⟩
     case round =>
      clear H'; (try clear c1); (try clear c2); (try clear p2); (try clear c3); (try clear p3); (try clear q3); (try clear hx3); (try clear qi3); (try clear c4); (try clear c5); (try clear p6); (try clear c7); (try clear c8); (try clear c9); (try clear c9b0); (try clear c9b1); (try clear c17); (try clear c22); (try clear c22b0); (try clear c23); (try clear c23b0); (try clear c24); (try clear c24b0); (try clear c25); (try clear c25b0); (try clear c29); (try clear c29b0); (try clear c31); (try clear c32); (try clear c32b0); (try clear c33); (try clear c33b0); (try clear p34); (try clear q34); (try clear hx34); (try clear qi34); (try clear p35); (try clear q35); (try clear hx35); (try clear p36); (try clear q36); (try clear hx36); (try clear c37); (try clear c38); (try clear c38b0); (try clear c39); (try clear c39b0); (try clear c43); (try clear c49); (try clear hcz11_0); (try clear hcz11_1); (try clear hcz13_0); (try clear hcz13_1); (try clear hcz15_0); (try clear hcz15_1); (try clear hcz28_0); (try clear hcz28_1); (try clear hfz11_0); (try clear hfz11_1); (try clear hfz13_0); (try clear hfz13_1); (try clear hfz15_0); (try clear hfz15_1); (try clear hfz28_0); (try clear hfz28_1); (try clear hx348_0); (try clear hx352_0); (try clear hx353_0); (try clear hx354_0); (try clear hx356_0); (try clear hx358_0); (try clear hx368_0); (try clear p2); (try clear p3); (try clear p34); (try clear p348); (try clear p35); (try clear p352); (try clear p353); (try clear p354); (try clear p356); (try clear p358); (try clear p368); (try clear q3); (try clear q34); (try clear q348); (try clear q35); (try clear q352); (try clear q353); (try clear q354); (try clear q356); (try clear q358); (try clear q368); obtain ⟨x14_2, x15_2, rfl, HA, HK2, HO_2, HO_14, BK334, HB⟩ := hrel
      cases gk with
      | zero => exact absurd HA.out (by simp [spec_CoverTree.l1])
      | succ k2 =>
       have H := HA.out; clear HA; simp only [spec_CoverTree.l1] at H
       by_cases c55 : x15_2 < (x2_1.length : Int)
       ·rw [if_pos c55] at H
        have c55b0 := dT c55; clear c55
        by_cases c56 : 0 ≤ x15_2
        ·rw [if_pos c56] at H
         have c56b0 := dT c56; clear c56; obtain ⟨t376, A57, H⟩ := zbind H
         by_cases c58 : x14_2.length < 5864062014805
         ·rw [if_pos c58] at H
          have LMc58 := A0_ c58; clear c58
          obtain ⟨y379, hy379⟩ : ∃ y_ : List (List Int), y_ = (x14_2 ++ [t376]) := ⟨_, rfl⟩
          replace H : (spec_CoverTree.l1 k2 x2_1 y379 (wrap64 (x15_2 + 1))) = some (r1, r2) := zH hy379 H
          have Ny379 := A0_ hy379; clear hy379; have H' := A0_ H; clear H; obtain ⟨Ao59, co59, eo59⟩ := Kd.V_slice HO_2.out; subst eo59
          have p375 : 0 ≤ (x15_2 : Int) := zd
          have q375 : x15_2 < (x2_1.length : Int) := zd
          obtain ⟨ad375, A375_0, c375_0, e375, hx375_0, hl375_0, hi375_0⟩ := at_L1 (Kd.V_reads' HO_2.out).2.2 x15_2 p375 q375
          cases e375
          obtain ⟨ce375, hce375, hMe375, hcc375⟩ := Kd.V_get HO_2.out [] x15_2 p375 (by first | exact q375 | exact zd | (have e_ := (Kd.V_reads' HO_2.out).1; omega))
          obtain ⟨ua375_0, uc375_0, rfl, ul375_0, ge375_0⟩ := Kd.FK_slice_open hMe375; have hv375_0 := hcc375 0 _ rfl
          rw [Nat.add_zero, show ((Kd.slice 3 (Kd.int .i64))).sz = 1 from rfl, Nat.mul_one] at hv375_0
          replace hv375_0 := sI (hv375_0.symm.trans hx375_0)
          injection hv375_0 with hva_ hvn_ hvc_
          rw [hva_] at ge375_0; rw [hvc_] at ul375_0
          have HL375_0 := A0_ (show Kd.V (Kd.int .i64) 3 _ w.heap.size _ _ (rd_L1 x2_1 x15_2) from Kd.V_mk ul375_0 ge375_0)
          clear hva_ hvn_ hvc_ ge375_0 ul375_0 hcc375 hce375; have HR375_0 := A0_ hi375_0; have HC375_0 := A0_ hl375_0; clear hi375_0 hl375_0; replace p375 := eq_true p375; replace q375 := eq_true q375
          go_wp2_with (first | ((with_reducible refine gC (f := 88) rfl ?_); refine zJ (some 93) Try.func88 #[.slice A375_0 (rd_L1 x2_1 x15_2).length c375_0] ?_; (with_reducible refine (spec_l2Copy.calls _ _ (rd_L1 x2_1 x15_2) t376 _ ?side1 ?side2 A57.out).mono ?_); (case side1 => repeat (first | exact (by repeat (first | (with_reducible exact HR375_0.out) | (with_reducible refine cA ?_ _) | exact HR375_0.out)) | (with_reducible refine cA ?_ _))); (case side2 => exact HC375_0.out); rintro e w60 ⟨v377, rfl, ho0, hb⟩; refine ⟨_, rfl, ?_⟩; replace HO_2 := A0_ (Kd.V_elder' (by (with_reducible repeat apply Kd.V_alloc); exact HO_2.out) (Kd.R_base ho0) hb); replace HO_14 := A0_ (Kd.S_elder' (zS_ HO_14) (Kd.R_base ho0) hb); replace HL375_0 := A0_ (Kd.V_elder' (by (with_reducible repeat apply Kd.V_alloc); exact HL375_0.out) (Kd.R_base ho0) hb); have HO378 := A0_ (rL (Kd.R_newM (M := fun k_ => (w.heap.size ≤ k_)) ho0 (bZ (zB_ HB)) (fun k_ h_ => h_)) (bZ (zB_ HB))); replace BK334 := zK BK334 hb; replace HR375_0 := A0_ (cB (by repeat (first | (with_reducible exact HR375_0.out) | (with_reducible refine cA ?_ _) | exact HR375_0.out)) hb); replace HB := zB HB hb; (try clear hb); (try clear ho0); obtain ⟨Ao62, co62, eo62⟩ := rS HO378.out; subst eo62) | ((with_reducible refine gB (b := .append) (xs := #[.tmp 88, .tmp 94]) rfl ?_); at_builtin; refine Kd.S_append (Kd.slice 3 (Kd.int .i64)) (w0 := w) w.heap.size rfl (.tmp 88) (.tmp 94) 25 22 (.slice none 0 0) 24 rfl Try.underlying25 info22 rfl (by decide) (by omega) u14 x14_2 t376 [.slice Ao62 t376.length co62] (fun k_ => (w.heap.size ≤ k_)) (fun k_ => some k_ = (.slice Ao62 t376.length co62 : Value).ownBlock) rfl rfl ?aP (fun k_ hk_ => ((rM (ok' := fun k_ => ((fun k_ => (w.heap.size ≤ k_))) k_ ∧ some k_ ≠ (u14 : Value).ownBlock) (Kd.R_apart' (HO378.out) (Kd.S_typed HO_14.out) (by decide)) (fun k_ hk => ⟨hk.1.1, hk.2⟩))).1 k_ hk_.symm) ?aF ?aO ?aB ?aS ?aL ?_; (case aP => exact Kd.M_row (rM (Kd.R_tight rfl (rM (ok' := fun k_ => ((fun k_ => (w.heap.size ≤ k_))) k_ ∧ some k_ ≠ (u14 : Value).ownBlock) (Kd.R_apart' (HO378.out) (Kd.S_typed HO_14.out) (by decide)) (fun k_ hk => ⟨hk.1.1, hk.2⟩))) (fun _ h_ => h_))); (case aB => exact (zB_ HB)); (case aF => exact (fun k_ hk => (Nat.le_trans (bZ (zB_ HB)) hk))); (case aO => exact (zmS HO_14 (fun k_ hk => ⟨hk.1, fun e_ => hk.2 e_⟩))); (case aS => exact (bZ (zB_ HB))); (case aL => have := LMc58.out; omega); intro v380 w61 ho hb hg hat; rw [← Ny379.out] at ho; replace HO_2 := A0_ (Kd.V_afterv (ok := (fun k_ => (P2_ k_ ∨ w.heap.size ≤ k_) ∧ some k_ ≠ (.slice Ao62 t376.length co62 : Value).ownBlock ∧ k_ ≠ gb334)) (by (with_reducible repeat apply Kd.V_alloc); exact Kd.V_mono HO_2.out (fun _ hk => ⟨⟨hk.1.1, ⟨hk.2, hk.1.2.2⟩⟩, hk.1.2.1⟩)) hg hat); replace BK334 := A0_ (blk_grown (g := gb334) (o := .cells #[.slice A0_0 l0_0.length c0_0, .slice A0_1 l0_1.length c0_1] 29 (0, 0)) (zK_ BK334) hg (Kd.S_ne HO_14.out BK334.out (by decide))); replace HL375_0 := A0_ (Kd.V_afterv (ok := (fun k_ => (P2_ k_ ∨ w.heap.size ≤ k_) ∧ some k_ ≠ (.slice Ao62 t376.length co62 : Value).ownBlock ∧ k_ ≠ gb334)) (by (with_reducible repeat apply Kd.V_alloc); exact Kd.V_mono HL375_0.out (fun _ hk => ⟨⟨hk.1.1, ⟨hk.2, hk.1.2.2⟩⟩, hk.1.2.1⟩)) hg hat); replace HB := A0_ (hb); have HO381 := A0_ (ho); clear HO_14 HO378 ho hb hg hat))
          go_roundg k2
          case measure => have := HK1.out; have := HK2.out; omega
          case rel => exact ⟨(y379), (wrap64 (x15_2 + 1)), zt, H', ⟨by have := HK1.out; have := HK2.out; omega⟩, ⟨by (with_reducible repeat (first | apply Kd.V_alloc | apply Kd.V_drewN | apply Kd.V_drew)); exact Kd.V_mono HO_2.out (fun _ hk => ⟨hk.1.1, ⟨hk.2, hk.1.2.2⟩⟩)⟩, ⟨zS_ HO381⟩, ⟨zK_ BK334⟩, ⟨zB_ HB⟩⟩
         rw [if_neg c58] at H
         exact absurd H (by simp)
        rw [if_neg c56] at H
        exact absurd H (by simp)
       rw [if_neg c55] at H; have c55b0 := dF c55; clear c55; simp only [Option.some.injEq, Prod.mk.injEq] at H; obtain ⟨rfl, rfl⟩ := H; obtain ⟨Ao63, co63, eo63⟩ := Kd.V_slice HO_2.out; subst eo63
       go_wp2
       go_ret2
       exact ⟨_, by first | rfl | (simp [*] <;> rfl), zS_ HO_14, zB_ HB⟩
  rw [if_neg c9] at H
  exact absurd H (by simp)
 replace c5 := Bool.eq_false_iff.mpr c5; subst c5
 have H1 : (some ((([] : List (List Int))), false)) = some (r1, r2) := by rw [if_neg (show ¬ (false = true) by decide)] at H; exact H
 clear H; have H := H1; clear H1
 obtain ⟨y336, hy336⟩ : ∃ y_ : List (List Int), y_ = (([] : List (List Int))) := ⟨_, rfl⟩
 replace H : (some (y336, false)) = some (r1, r2) := zH hy336 H
 have Ny336 := A0_ hy336; clear hy336; simp only [Option.some.injEq, Prod.mk.injEq] at H; obtain ⟨rfl, rfl⟩ := H
 go_enter Try.func49, Try.ntmps49
 go_wp2_with (first | ((with_reducible refine gD (N := 3) rfl ?_); refine zX (N := 3) (cs := #[.slice A0_0 l0_0.length c0_0, .slice A0_1 l0_1.length c0_1]) (t := 29) ?_; intro gb334 hg w64 hbox hb; replace HO2 := A0_ (Kd.V_below (Kd.V_elderB (by (with_reducible repeat apply Kd.V_alloc); exact HO2.out) gb334 (Nat.le_of_eq hg.symm)) hb); have BK334 := A0_ (hbox); have GW334 := zG hg HB; have GE334 := zG hg HB; replace HB := zB HB hb; clear hb hbox hg; have hcz65_0 := zc0 BK334; have hcz65_1 := zc1 BK334; have hfz65_0 := kF BK334.out 0; have hfz65_1 := kF BK334.out 1) | ((with_reducible refine gC (f := 17) rfl ?_); refine zJ (some 19) Try.func17 #[.agg #[.slice A0_0 l0_0.length c0_0, .slice A0_1 l0_1.length c0_1], .int .i64 a1, .slice A2 l2.length c2] ?_; (with_reducible refine (spec_VoltageValid.calls k _ _ l0_0 _ _ l0_1 a1 _ _ l2 false _ ?side1 ?side2 ?side3 ?side4 ?side5 ?side6 A4.out).mono ?_); (case side1 => exact zC HR0_0 HB); (case side2 => exact HC0_0.out); (case side3 => exact zC HR0_1 HB); (case side4 => exact HC0_1.out); (case side5 => repeat (first | exact (Kd.V_reads' HO2.out).2.2 | (with_reducible refine cA ?_ _))); (case side6 => exact (Kd.V_reads' HO2.out).2.1); rintro e w66 ⟨rfl, hb⟩; refine ⟨_, rfl, ?_⟩; replace HO2 := A0_ (Kd.V_below (by (with_reducible repeat apply Kd.V_alloc); exact HO2.out) hb); replace BK334 := zK BK334 hb; replace HB := zB HB hb; (try clear hb)) | ((with_reducible refine gD (N := 21) rfl ?_); refine Kd.S_lit (Kd.slice 3 (Kd.int .i64)) _ 22 ?hg (N := 21) ?hd (xs := ([] : List (List Int))) (inner := []) (ok := fun _ => True) (okp := fun _ => True) ?hr ?hp (fun _ hk => hk) trivial (Below.refl _ _) (Nat.le_refl _) (by simp) ?_; (case hd => rfl); (case hg => rfl); (case hr => first | (go_simp; done) | (go_simp; rfl)); (case hp => exact (Reps.none _ _)); intro v337 w67 ho68 hb hg_ hnew_; clear hg_ hnew_; (first | rw [← Ny336.out] at ho68 | (simp only [Int.reduceToNat] at ho68; rw [← Ny336.out] at ho68)); replace HO2 := A0_ (Kd.V_elder' (by (with_reducible repeat apply Kd.V_alloc); exact HO2.out) (Kd.S_base ho68) hb); have HO338 := A0_ (Kd.S_lower (Kd.S_newM (M := fun k_ => (w.heap.size ≤ k_)) ho68 (bZ (zB_ HB)) (fun k_ h_ => h_)) (bZ (zB_ HB))); replace BK334 := zK BK334 hb; replace HB := zB HB hb; clear hb ho68))
 go_ret2
 exact ⟨_, by first | rfl | (simp [*] <;> rfl), zmS HO338 (fun _ hk => hk.1), zB_ HB⟩

end Go.Proofs.Ytmcgkckdnelcdaa.PFnExactCoverTree
