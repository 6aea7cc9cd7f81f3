-- Made by a program of this session (wip/tools) out of the loaded program; not trusted: Lean checks it.
import Derived.Test.YtmcgkckdnelcdaaPFnExactCoverTreex0
import Derived.Test.YtmcgkckdnelcdaaPFnExactCoverTreex3
import Derived.Test.YtmcgkckdnelcdaaPFnExactCoverTreex4
-- packed
namespace Go.Proofs.Ytmcgkckdnelcdaa.PFnExactCoverTree
open Go.RowKit Go.Proofs.YtmcgkckdnelcdaaW.PrintWords Go.Proofs.YtmcgkckdnelcdaaW.PrintLast Go.Proofs.YtmcgkckdnelcdaaW.PrintMore
attribute [local go_sem] max2_int min2_int max_two min_two max_three min_three max_four min_four   -- for this text's walks alone
set_option linter.unusedVariables false
set_option linter.unusedSimpArgs false

/-! ### spec_l7Dart: function 104 -/
def spec_l7Dart.l0 : Nat → Int → List Int → Int → Option (Int)
  | 0, _, _, _ => none
  | k + 1, x1, x5, x6 => if x6 < (x5.length : Int) then (if 0 ≤ x6 then (if (rd x5 x6) = x1 then (some x6) else (spec_l7Dart.l0 k x1 x5 (wrap64 (x6 + 1)))) else (none)) else (some (-1))
def spec_l7Dart.f (k : Nat) (l0_0 : List Int) (l0_1 : List Int) (a1 : Int) : Option (Int) := (spec_l7Edges.f k l0_0 l0_1).bind fun t245 => (spec_l7Dart.l0 k a1 t245 0)
set_option maxHeartbeats 8000000 in
set_option maxRecDepth 100000 in
theorem spec_l7Dart.calls (k : Nat) (A0_0 : Option Addr) (c0_0 : Nat) (l0_0 : List Int) (A0_1 : Option Addr) (c0_1 : Nat) (l0_1 : List Int) (a1 : Int) (r : Int) (w : World) (hr0_0 : Kd.C (Kd.int .i64) w A0_0 l0_0.length l0_0) (hc0_0 : l0_0.length ≤ c0_0) (hr0_1 : Kd.C (Kd.int .i64) w A0_1 l0_1.length l0_1) (hc0_1 : l0_1.length ≤ c0_1) (h : spec_l7Dart.f k l0_0 l0_1 a1 = some r) :
    Calls Try.prog 104 #[.agg #[.slice A0_0 l0_0.length c0_0, .slice A0_1 l0_1.length c0_1], .int .i64 a1] w fun e w' => e = .returned (.int .i64 r) ∧ Below w.heap.size w w' := by
 have hu29 := Try.underlying29; have HR0_0 := A0_ hr0_0; have HC0_0 := A0_ hc0_0; clear hr0_0 hc0_0; have HR0_1 := A0_ hr0_1; have HC0_1 := A0_ hc0_1; clear hr0_1 hc0_1
 have HB := A0_ (Below.refl w.heap.size w)
 have H : ((spec_l7Edges.f k l0_0 l0_1).bind fun t245 => (spec_l7Dart.l0 k a1 t245 0)) = some r := h
 clear h; obtain ⟨t245, A3, H⟩ := zbind H; have H' := A0_ H; clear H
 go_enter Try.func104, Try.ntmps104
 go_wp2_with (first | ((with_reducible refine gD (N := 2) rfl ?_); refine zX (N := 2) (cs := #[.slice A0_0 l0_0.length c0_0, .slice A0_1 l0_1.length c0_1]) (t := 29) ?_; intro gb244 hg w4 hbox hb; have BK244 := A0_ (hbox); have GW244 := zG hg HB; have GE244 := zG hg HB; replace HB := zB HB hb; clear hb hbox hg; have hcz5_0 := zc0 BK244; have hcz5_1 := zc1 BK244; have hfz5_0 := kF BK244.out 0; have hfz5_1 := kF BK244.out 1) | ((with_reducible refine gC (f := 106) rfl ?_); refine zJ (some 8) Try.func106 #[.agg #[.slice A0_0 l0_0.length c0_0, .slice A0_1 l0_1.length c0_1]] ?_; (with_reducible refine (spec_l7Edges.calls k _ _ l0_0 _ _ l0_1 t245 _ ?side1 ?side2 ?side3 ?side4 A3.out).mono ?_); (case side1 => exact zC HR0_0 HB); (case side2 => exact HC0_0.out); (case side3 => exact zC HR0_1 HB); (case side4 => exact HC0_1.out); rintro e w6 ⟨v246, rfl, ho0, hb⟩; refine ⟨_, rfl, ?_⟩; have HO247 := A0_ (rL ho0 (bZ (zB_ HB))); replace BK244 := zK BK244 hb; replace HB := zB HB hb; (try clear hb); (try clear ho0)))
 go_loopg [6] k (fun kq v6 w' => ∃ (x6_1 : Int), v6 = .int .i64 x6_1 ∧ Aside0 (spec_l7Dart.l0 kq a1 t245 x6_1 = some r) ∧ Aside0 (kq ≤ k) ∧ Aside0 (Kd.R (Kd.int .i64) 3 w' w.heap.size (fun _ => True) v246 t245) ∧ Aside0 (w'.heap[gb244]? = some (.cells #[(.slice A0_0 l0_0.length c0_0), (.slice A0_1 l0_1.length c0_1)] 29 (0, 0))) ∧ Aside0 (Below w.heap.size w w'))
 case atStart => exact ⟨(0), zt, H', ⟨Nat.le_refl _⟩, ⟨zR_ HO247⟩, ⟨zK_ BK244⟩, ⟨zB_ HB⟩⟩
 case round =>
  clear H'; (try clear c1); (try clear p2); (try clear hcz5_0); (try clear hcz5_1); (try clear hfz5_0); (try clear hfz5_1); obtain ⟨x6_1, rfl, HA, HK1, HO_5, BK244, HB⟩ := hrel
  cases gk with
  | zero => exact absurd HA.out (by simp [spec_l7Dart.l0])
  | succ k1 =>
   have H := HA.out; clear HA; simp only [spec_l7Dart.l0] at H
   by_cases c7 : x6_1 < (t245.length : Int)
   ·rw [if_pos c7] at H
    have c7b0 := dT c7; clear c7
    by_cases c8 : 0 ≤ x6_1
    ·rw [if_pos c8] at H
     have c8b0 := dT c8; clear c8
     by_cases c9 : (rd t245 x6_1) = a1
     ·rw [if_pos c9] at H
      have c9b0 : ((rd t245 x6_1) == a1) = true := beq_iff_eq.mpr c9
      have c9b1 : ((rd t245 x6_1) != a1) = false := bne_eq_false_iff_eq.mpr c9
      clear c9; obtain rfl := sI H; obtain ⟨Ao10, co10, eo10⟩ := rS HO_5.out; subst eo10
      have p248 : 0 ≤ (x6_1 : Int) := zd
      have q248 : x6_1 < (t245.length : Int) := zd
      obtain ⟨ad248, e248, hx248_0⟩ := tI (rR HO_5.out).2.2 x6_1 p248 q248
      cases e248
      replace p248 := eq_true p248; replace q248 := eq_true q248
      go_wp2
      go_ret
      exact ⟨by first | rfl | (simp [*] <;> rfl), zB_ HB⟩
     rw [if_neg c9] at H
     have c9b0 : ((rd t245 x6_1) == a1) = false := beq_eq_false_iff_ne.mpr c9
     have c9b1 : ((rd t245 x6_1) != a1) = true := bne_iff_ne.mpr c9
     have H' := A0_ H; clear H; obtain ⟨Ao11, co11, eo11⟩ := rS HO_5.out; subst eo11
     have p248 : 0 ≤ (x6_1 : Int) := zd
     have q248 : x6_1 < (t245.length : Int) := zd
     obtain ⟨ad248, e248, hx248_0⟩ := tI (rR HO_5.out).2.2 x6_1 p248 q248
     cases e248
     replace p248 := eq_true p248; replace q248 := eq_true q248
     go_wp2
     go_roundg k1
     case measure => have := HK1.out; omega
     case rel => exact ⟨(wrap64 (x6_1 + 1)), zt, H', ⟨by have := HK1.out; omega⟩, ⟨zR_ HO_5⟩, ⟨zK_ BK244⟩, ⟨zB_ HB⟩⟩
    rw [if_neg c8] at H
    exact absurd H (by simp)
   rw [if_neg c7] at H; have c7b0 := dF c7; clear c7; obtain rfl := sI H; obtain ⟨Ao12, co12, eo12⟩ := rS HO_5.out; subst eo12
   go_wp2
   go_ret
   exact ⟨by first | rfl | (simp [*] <;> rfl), zB_ HB⟩

/-! ### spec_l9Conj: function 81 -/
def spec_l9Conj.l0 : Nat → List (List Int) → Int → List Int → List Int → List (List Int) → Int → List Int → List Int → Option ((List (List Int)))
  | 0, _, _, _, _, _, _, _, _ => none
  | k + 1, x1, x2, x3, x9, x10, x11, x250000, x250001 => if x11 < (x1.length : Int) then ((spec_l7Dart.f k x250000 x250001 x11).bind fun t256 => (if 0 ≤ x11 then (if 0 ≤ t256 then (if t256 < (x9.length : Int) then (if (rd x9 t256) = x2 then ((spec_l1Back.f k x3).bind fun t259 => ((spec_l1Mul.f k t259 (rd_L1 x1 x11)).bind fun t262 => (if t256 < (x250001.length : Int) then (if 0 ≤ (rd x250001 t256) then (if (rd x250001 t256) < (x9.length : Int) then (if (rd x9 (rd x250001 t256)) = x2 then ((spec_l1Mul.f k t262 x3).bind fun t267 => ((spec_l2Copy.f t267).bind fun t270 => (if x10.length < 5864062014805 then (spec_l9Conj.l0 k x1 x2 x3 x9 (x10 ++ [t270]) (wrap64 (x11 + 1)) x250000 x250001) else (none)))) else ((spec_l2Copy.f t262).bind fun t276 => (if x10.length < 5864062014805 then (spec_l9Conj.l0 k x1 x2 x3 x9 (x10 ++ [t276]) (wrap64 (x11 + 1)) x250000 x250001) else (none)))) else (none)) else (none)) else (none)))) else (if t256 < (x250001.length : Int) then (if 0 ≤ (rd x250001 t256) then (if (rd x250001 t256) < (x9.length : Int) then (if (rd x9 (rd x250001 t256)) = x2 then ((spec_l1Mul.f k (rd_L1 x1 x11) x3).bind fun t284 => ((spec_l2Copy.f t284).bind fun t287 => (if x10.length < 5864062014805 then (spec_l9Conj.l0 k x1 x2 x3 x9 (x10 ++ [t287]) (wrap64 (x11 + 1)) x250000 x250001) else (none)))) else ((spec_l2Copy.f (rd_L1 x1 x11)).bind fun t293 => (if x10.length < 5864062014805 then (spec_l9Conj.l0 k x1 x2 x3 x9 (x10 ++ [t293]) (wrap64 (x11 + 1)) x250000 x250001) else (none)))) else (none)) else (none)) else (none))) else (none)) else (none)) else (none))) else (some x10)
def spec_l9Conj.f (k : Nat) (l0_0 : List Int) (l0_1 : List Int) (l1 : List (List Int)) (a2 : Int) (l3 : List Int) : Option ((List (List Int))) := (spec_l7Vertices.f k l0_0).bind fun t250 => (spec_l9Conj.l0 k l1 a2 l3 t250 (([] : List (List Int))) 0 l0_0 l0_1)
set_option maxHeartbeats 8000000 in
set_option maxRecDepth 100000 in
theorem spec_l9Conj.calls (k : Nat) (A0_0 : Option Addr) (c0_0 : Nat) (l0_0 : List Int) (A0_1 : Option Addr) (c0_1 : Nat) (l0_1 : List Int) (A1 : Option Addr) (c1 : Nat) (l1 : List (List Int)) (a2 : Int) (A3 : Option Addr) (c3 : Nat) (l3 : List Int) (r : List (List Int)) (w : World) (hr0_0 : Kd.C (Kd.int .i64) w A0_0 l0_0.length l0_0) (hc0_0 : l0_0.length ≤ c0_0) (hr0_1 : Kd.C (Kd.int .i64) w A0_1 l0_1.length l0_1) (hc0_1 : l0_1.length ≤ c0_1) (hr1 : Kd.C (Kd.slice 3 (Kd.int .i64)) w A1 l1.length l1) (hc1 : l1.length ≤ c1) (hr3 : Kd.C (Kd.int .i64) w A3 l3.length l3) (hc3 : l3.length ≤ c3) (h : spec_l9Conj.f k l0_0 l0_1 l1 a2 l3 = some r) :
    Calls Try.prog 81 #[.agg #[.slice A0_0 l0_0.length c0_0, .slice A0_1 l0_1.length c0_1], .slice A1 l1.length c1, .int .i64 a2, .slice A3 l3.length c3] w fun e w' => ∃ v0_ : Value, e = .returned (v0_) ∧ Kd.S (Kd.slice 3 (Kd.int .i64)) 22 w' w.heap.size (fun _ => True) v0_ r ∧ Below w.heap.size w w' := by
 have hu29 := Try.underlying29; have HR0_0 := A0_ hr0_0; have HC0_0 := A0_ hc0_0; clear hr0_0 hc0_0; have HR0_1 := A0_ hr0_1; have HC0_1 := A0_ hc0_1; clear hr0_1 hc0_1; have HR1 := A0_ hr1; have HC1 := A0_ hc1; clear hr1 hc1; have HR3 := A0_ hr3; have HC3 := A0_ hc3; clear hr3 hc3
 have HB := A0_ (Below.refl w.heap.size w)
 have H : ((spec_l7Vertices.f k l0_0).bind fun t250 => (spec_l9Conj.l0 k l1 a2 l3 t250 (([] : List (List Int))) 0 l0_0 l0_1)) = some r := h
 clear h; obtain ⟨t250, A5, H⟩ := zbind H
 obtain ⟨y253, hy253⟩ : ∃ y_ : List (List Int), y_ = (([] : List (List Int))) := ⟨_, rfl⟩
 replace H : (spec_l9Conj.l0 k l1 a2 l3 t250 y253 0 l0_0 l0_1) = some r := zH hy253 H
 have Ny253 := A0_ hy253; clear hy253; have H' := A0_ H; clear H
 go_enter Try.func81, Try.ntmps81
 go_wp2_with (first | ((with_reducible refine gD (N := 4) rfl ?_); refine zX (N := 4) (cs := #[.slice A0_0 l0_0.length c0_0, .slice A0_1 l0_1.length c0_1]) (t := 29) ?_; intro gb249 hg w6 hbox hb; have BK249 := A0_ (hbox); have GW249 := zG hg HB; have GE249 := zG hg HB; replace HB := zB HB hb; clear hb hbox hg; have hcz7_0 := zc0 BK249; have hcz7_1 := zc1 BK249; have hfz7_0 := kF BK249.out 0; have hfz7_1 := kF BK249.out 1) | ((with_reducible refine gC (f := 82) rfl ?_); refine zJ (some 16) Try.func82 #[.slice A0_0 l0_0.length c0_0] ?_; (with_reducible refine (spec_l7Vertices.calls k _ _ l0_0 t250 _ ?side1 ?side2 A5.out).mono ?_); (case side1 => exact zC HR0_0 HB); (case side2 => exact HC0_0.out); rintro e w8 ⟨v251, rfl, ho0, hb⟩; refine ⟨_, rfl, ?_⟩; have HO252 := A0_ (rL ho0 (bZ (zB_ HB))); replace BK249 := zK BK249 hb; replace HB := zB HB hb; (try clear hb); (try clear ho0)) | ((with_reducible refine gD (N := 17) rfl ?_); refine Kd.S_lit (Kd.slice 3 (Kd.int .i64)) _ 22 ?hg (N := 17) ?hd (xs := ([] : List (List Int))) (inner := []) (ok := fun _ => True) (okp := fun _ => True) ?hr ?hp (fun _ hk => hk) trivial (Below.refl _ _) (Nat.le_refl _) (by simp) ?_; (case hd => rfl); (case hg => rfl); (case hr => first | (go_simp; done) | (go_simp; rfl)); (case hp => exact (Reps.none _ _)); intro v254 w9 ho10 hb hg_ hnew_; clear hg_ hnew_; (first | rw [← Ny253.out] at ho10 | (simp only [Int.reduceToNat] at ho10; rw [← Ny253.out] at ho10)); have HO255 := A0_ (Kd.S_lower (Kd.S_new' ho10 (rX (zR_ HO252))) (bZ (zB_ HB))); replace HO252 := zR HO252 hb; replace BK249 := zK BK249 hb; replace HB := zB HB hb; clear hb ho10))
 go_loopg [10, 11] k (fun kq v10 v11 w' => ∃ (x10_1 : List (List Int)) (x11_1 : Int), v11 = .int .i64 x11_1 ∧ Aside0 (spec_l9Conj.l0 kq l1 a2 l3 t250 x10_1 x11_1 l0_0 l0_1 = some r) ∧ Aside0 (kq ≤ k) ∧ Aside0 (Kd.R (Kd.int .i64) 3 w' w.heap.size (fun _ => True) v251 t250) ∧ Aside0 (Kd.S (Kd.slice 3 (Kd.int .i64)) 22 w' w.heap.size (fun k_ => some k_ ≠ (v251 : Value).ownBlock) v10 x10_1) ∧ Aside0 (w'.heap[gb249]? = some (.cells #[(.slice A0_0 l0_0.length c0_0), (.slice A0_1 l0_1.length c0_1)] 29 (0, 0))) ∧ Aside0 (Below w.heap.size w w'))
 case atStart => exact ⟨(y253), (0), zt, H', ⟨Nat.le_refl _⟩, ⟨zR_ HO252⟩, ⟨zmS HO255 (fun _ hk => hk.2)⟩, ⟨zK_ BK249⟩, ⟨zB_ HB⟩⟩
 case round =>
  clear H'; (try clear c1); (try clear p2); (try clear c3); (try clear c8); (try clear hcz7_0); (try clear hcz7_1); (try clear hfz7_0); (try clear hfz7_1); obtain ⟨x10_1, x11_1, rfl, HA, HK1, HO_9, HO_10, BK249, HB⟩ := hrel
  cases gk with
  | zero => exact absurd HA.out (by simp [spec_l9Conj.l0])
  | succ k1 =>
   have H := HA.out; clear HA; simp only [spec_l9Conj.l0] at H
   by_cases c11 : x11_1 < (l1.length : Int)
   ·rw [if_pos c11] at H
    have c11b0 := dT c11; clear c11; obtain ⟨t256, A12, H⟩ := zbind H
    by_cases c13 : 0 ≤ x11_1
    ·rw [if_pos c13] at H
     have c13b0 := dT c13; clear c13
     by_cases c14 : 0 ≤ t256
     ·rw [if_pos c14] at H
      have c14b0 := dT c14; clear c14
      by_cases c15 : t256 < (t250.length : Int)
      ·rw [if_pos c15] at H
       have c15b0 := dT c15; clear c15
       by_cases c16 : (rd t250 t256) = a2
       ·rw [if_pos c16] at H
        have c16b0 : ((rd t250 t256) == a2) = true := beq_iff_eq.mpr c16
        have c16b1 : ((rd t250 t256) != a2) = false := bne_eq_false_iff_eq.mpr c16
        clear c16; obtain ⟨t259, A17, H⟩ := zbind H; obtain ⟨t262, A18, H⟩ := zbind H
        by_cases c19 : t256 < (l0_1.length : Int)
        ·rw [if_pos c19] at H
         have c19b0 := dT c19; clear c19
         by_cases c20 : 0 ≤ (rd l0_1 t256)
         ·rw [if_pos c20] at H
          have c20b0 := dT c20; clear c20
          by_cases c21 : (rd l0_1 t256) < (t250.length : Int)
          ·rw [if_pos c21] at H
           have c21b0 := dT c21; clear c21
           by_cases c22 : (rd t250 (rd l0_1 t256)) = a2
           ·rw [if_pos c22] at H
            have c22b0 : ((rd t250 (rd l0_1 t256)) == a2) = true := beq_iff_eq.mpr c22
            have c22b1 : ((rd t250 (rd l0_1 t256)) != a2) = false := bne_eq_false_iff_eq.mpr c22
            clear c22; obtain ⟨t267, A23, H⟩ := zbind H; obtain ⟨t270, A24, H⟩ := zbind H
            by_cases c25 : x10_1.length < 5864062014805
            ·rw [if_pos c25] at H
             have LMc25 := A0_ c25; clear c25
             obtain ⟨y273, hy273⟩ : ∃ y_ : List (List Int), y_ = (x10_1 ++ [t270]) := ⟨_, rfl⟩
             replace H : (spec_l9Conj.l0 k1 l1 a2 l3 t250 y273 (wrap64 (x11_1 + 1)) l0_0 l0_1) = some r := zH hy273 H
             have Ny273 := A0_ hy273; clear hy273; have H' := A0_ H; clear H; have hcz26_0 := zc0 BK249; have hcz26_1 := zc1 BK249; have hfz26_0 := kF BK249.out 0; have hfz26_1 := kF BK249.out 1
             go_wp2_with (first | ((with_reducible refine gC (f := 104) rfl ?_); refine zJ (some 26) Try.func104 #[.agg #[.slice A0_0 l0_0.length c0_0, .slice A0_1 l0_1.length c0_1], .int .i64 x11_1] ?_; (with_reducible refine (spec_l7Dart.calls k1 _ _ l0_0 _ _ l0_1 x11_1 t256 _ ?side1 ?side2 ?side3 ?side4 A12.out).mono ?_); (case side1 => exact zC HR0_0 HB); (case side2 => exact HC0_0.out); (case side3 => exact zC HR0_1 HB); (case side4 => exact HC0_1.out); rintro e w27 ⟨rfl, hb⟩; refine ⟨_, rfl, ?_⟩; replace HO_9 := zR HO_9 hb; replace HO_10 := zS HO_10 hb; replace BK249 := zK BK249 hb; replace HB := zB HB hb; (try clear hb); have p257 : 0 ≤ (x11_1 : Int) := zd; have q257 : x11_1 < (l1.length : Int) := zd; obtain ⟨ad257, A257_0, c257_0, e257, hx257_0, hl257_0, hi257_0⟩ := at_L1 HR1.out x11_1 p257 q257; cases e257; try replace hx257_0 := (HB.out.cell (wL w _ hx257_0)).trans hx257_0; have HR257_0 := A0_ hi257_0; have HC257_0 := A0_ hl257_0; clear hi257_0 hl257_0; replace p257 := eq_true p257; replace q257 := eq_true q257; obtain ⟨Ao28, co28, eo28⟩ := rS HO_9.out; subst eo28; have p258 : 0 ≤ (t256 : Int) := zd; have q258 : t256 < (t250.length : Int) := zd; obtain ⟨ad258, e258, hx258_0⟩ := tI (rR HO_9.out).2.2 t256 p258 q258; cases e258; replace p258 := eq_true p258; replace q258 := eq_true q258) | ((with_reducible refine gC (f := 85) rfl ?_); refine zJ (some 38) Try.func85 #[.slice A3 l3.length c3] ?_; (with_reducible refine (spec_l1Back.calls k1 _ _ l3 t259 _ ?side1 ?side2 A17.out).mono ?_); (case side1 => exact zC HR3 HB); (case side2 => exact HC3.out); rintro e w29 ⟨v260, rfl, ho0, hb⟩; refine ⟨_, rfl, ?_⟩; replace HO_10 := A0_ (Kd.S_elder' (zS_ HO_10) (Kd.R_base ho0) hb); have HO261 := A0_ (rL (Kd.R_new' ho0 (rX (zR_ HO_9))) (bZ (zB_ HB))); replace HO_9 := A0_ (Kd.R_elder' (zR_ HO_9) (Kd.R_base ho0) hb); replace BK249 := zK BK249 hb; replace HB := zB HB hb; (try clear hb); (try clear ho0); obtain ⟨Ao30, co30, eo30⟩ := rS HO261.out; subst eo30) | ((with_reducible refine gC (f := 67) rfl ?_); refine zJ (some 40) Try.func67 #[.slice Ao30 t259.length co30, .slice A257_0 (rd_L1 l1 x11_1).length c257_0] ?_; (with_reducible refine (spec_l1Mul.calls k1 _ _ t259 _ _ (rd_L1 l1 x11_1) t262 _ ?side1 ?side2 ?side3 ?side4 A18.out).mono ?_); (case side1 => exact zD HO261); (case side2 => exact (rR HO261.out).2.1); (case side3 => exact zC HR257_0 HB); (case side4 => exact HC257_0.out); rintro e w31 ⟨v263, rfl, ho0, hb⟩; refine ⟨_, rfl, ?_⟩; replace HO_10 := A0_ (Kd.S_elder' (zS_ HO_10) (Kd.R_base ho0) hb); have HO264 := A0_ (rL (Kd.R_new' (Kd.R_new' ho0 (rX (zR_ HO_9))) (rX (zR_ HO261))) (bZ (zB_ HB))); replace HO_9 := A0_ (Kd.R_elder' (zR_ HO_9) (Kd.R_base ho0) hb); replace HO261 := A0_ (Kd.R_elder' (zR_ HO261) (Kd.R_base ho0) hb); replace BK249 := zK BK249 hb; replace HB := zB HB hb; (try clear hb); (try clear ho0); have hcz32_0 := zc0 BK249; have hcz32_1 := zc1 BK249; have hfz32_0 := kF BK249.out 0; have hfz32_1 := kF BK249.out 1; have p265 : 0 ≤ (t256 : Int) := zd; have q265 : t256 < (l0_1.length : Int) := zd; obtain ⟨ad265, e265, hx265_0⟩ := tI HR0_1.out t256 p265 q265; cases e265; try replace hx265_0 := (HB.out.cell (wL w _ hx265_0)).trans hx265_0; replace p265 := eq_true p265; replace q265 := eq_true q265; have p266 : 0 ≤ ((rd l0_1 t256) : Int) := zd; have q266 : (rd l0_1 t256) < (t250.length : Int) := zd; obtain ⟨ad266, e266, hx266_0⟩ := tI (rR HO_9.out).2.2 (rd l0_1 t256) p266 q266; obtain rfl : ad258 = ad266 := (by injection e266); replace p266 := eq_true p266; replace q266 := eq_true q266; obtain ⟨Ao33, co33, eo33⟩ := rS HO264.out; subst eo33) | ((with_reducible refine gC (f := 67) rfl ?_); refine zJ (some 53) Try.func67 #[.slice Ao33 t262.length co33, .slice A3 l3.length c3] ?_; (with_reducible refine (spec_l1Mul.calls k1 _ _ t262 _ _ l3 t267 _ ?side1 ?side2 ?side3 ?side4 A23.out).mono ?_); (case side1 => exact zD HO264); (case side2 => exact (rR HO264.out).2.1); (case side3 => exact zC HR3 HB); (case side4 => exact HC3.out); rintro e w34 ⟨v268, rfl, ho0, hb⟩; refine ⟨_, rfl, ?_⟩; replace HO_10 := A0_ (Kd.S_elder' (zS_ HO_10) (Kd.R_base ho0) hb); have HO269 := A0_ (rL (Kd.R_new' (Kd.R_new' (Kd.R_new' ho0 (rX (zR_ HO_9))) (rX (zR_ HO261))) (rX (zR_ HO264))) (bZ (zB_ HB))); replace HO_9 := A0_ (Kd.R_elder' (zR_ HO_9) (Kd.R_base ho0) hb); replace HO261 := A0_ (Kd.R_elder' (zR_ HO261) (Kd.R_base ho0) hb); replace HO264 := A0_ (Kd.R_elder' (zR_ HO264) (Kd.R_base ho0) hb); replace BK249 := zK BK249 hb; replace HB := zB HB hb; (try clear hb); (try clear ho0); obtain ⟨Ao35, co35, eo35⟩ := rS HO269.out; subst eo35) | ((with_reducible refine gC (f := 88) rfl ?_); refine zJ (some 56) Try.func88 #[.slice Ao35 t267.length co35] ?_; (with_reducible refine (spec_l2Copy.calls _ _ t267 t270 _ ?side1 ?side2 A24.out).mono ?_); (case side1 => exact zD HO269); (case side2 => exact (rR HO269.out).2.1); rintro e w36 ⟨v271, rfl, ho0, hb⟩; refine ⟨_, rfl, ?_⟩; replace HO_10 := A0_ (Kd.S_elder' (zS_ HO_10) (Kd.R_base ho0) hb); have HO272 := A0_ (rL (Kd.R_new' (Kd.R_new' (Kd.R_new' (Kd.R_new' ho0 (rX (zR_ HO_9))) (rX (zR_ HO261))) (rX (zR_ HO264))) (rX (zR_ HO269))) (bZ (zB_ HB))); replace HO_9 := A0_ (Kd.R_elder' (zR_ HO_9) (Kd.R_base ho0) hb); replace HO261 := A0_ (Kd.R_elder' (zR_ HO261) (Kd.R_base ho0) hb); replace HO264 := A0_ (Kd.R_elder' (zR_ HO264) (Kd.R_base ho0) hb); replace HO269 := A0_ (Kd.R_elder' (zR_ HO269) (Kd.R_base ho0) hb); replace BK249 := zK BK249 hb; replace HB := zB HB hb; (try clear hb); (try clear ho0); obtain ⟨Ao38, co38, eo38⟩ := rS HO272.out; subst eo38) | ((with_reducible refine gB (b := .append) (xs := #[.tmp 54, .tmp 57]) rfl ?_); at_builtin; refine Kd.S_append (Kd.slice 3 (Kd.int .i64)) (w0 := w) w.heap.size rfl (.tmp 54) (.tmp 57) 25 22 (.slice none 0 0) 24 rfl Try.underlying25 info22 rfl (by decide) (by omega) u10 x10_1 t270 [.slice Ao38 t270.length co38] (fun k_ => some k_ ≠ (.slice (some ad258) t250.length co28 : Value).ownBlock ∧ some k_ ≠ (.slice Ao30 t259.length co30 : Value).ownBlock ∧ some k_ ≠ (.slice Ao33 t262.length co33 : Value).ownBlock ∧ some k_ ≠ (.slice Ao35 t267.length co35 : Value).ownBlock) (fun k_ => some k_ = (.slice Ao38 t270.length co38 : Value).ownBlock) rfl rfl ?aP (fun k_ hk_ => ((rM (ok' := fun k_ => ((fun k_ => some k_ ≠ (.slice (some ad258) t250.length co28 : Value).ownBlock ∧ some k_ ≠ (.slice Ao30 t259.length co30 : Value).ownBlock ∧ some k_ ≠ (.slice Ao33 t262.length co33 : Value).ownBlock ∧ some k_ ≠ (.slice Ao35 t267.length co35 : Value).ownBlock)) k_ ∧ some k_ ≠ (u10 : Value).ownBlock) (Kd.R_apart' (HO272.out) (Kd.S_typed HO_10.out) (by decide)) (fun k_ hk => ⟨⟨hk.1.1.1.1.2, ⟨hk.1.1.1.2, ⟨hk.1.1.2, hk.1.2⟩⟩⟩, hk.2⟩))).1 k_ hk_.symm) ?aF ?aO ?aB ?aS ?aL ?_; (case aP => exact Kd.M_row (rM (Kd.R_tight rfl (rM (ok' := fun k_ => ((fun k_ => some k_ ≠ (.slice (some ad258) t250.length co28 : Value).ownBlock ∧ some k_ ≠ (.slice Ao30 t259.length co30 : Value).ownBlock ∧ some k_ ≠ (.slice Ao33 t262.length co33 : Value).ownBlock ∧ some k_ ≠ (.slice Ao35 t267.length co35 : Value).ownBlock)) k_ ∧ some k_ ≠ (u10 : Value).ownBlock) (Kd.R_apart' (HO272.out) (Kd.S_typed HO_10.out) (by decide)) (fun k_ hk => ⟨⟨hk.1.1.1.1.2, ⟨hk.1.1.1.2, ⟨hk.1.1.2, hk.1.2⟩⟩⟩, hk.2⟩))) (fun _ h_ => h_))); (case aB => exact (zB_ HB)); (case aF => exact (fun k_ hk => ⟨Kd.fresh' (rX (zR_ HO_9)) k_ hk, Kd.fresh' (rX (zR_ HO261)) k_ hk, Kd.fresh' (rX (zR_ HO264)) k_ hk, Kd.fresh' (rX (zR_ HO269)) k_ hk⟩)); (case aO => exact (zmS HO_10 (fun k_ hk => ⟨⟨hk.1.1.1.1, ⟨hk.1.1.1.2, ⟨hk.1.1.2, hk.1.2⟩⟩⟩, fun e_ => hk.2 e_⟩))); (case aS => exact (bZ (zB_ HB))); (case aL => have := LMc25.out; omega); intro v274 w37 ho hb hg hat; rw [← Ny273.out] at ho; replace HO_9 := A0_ (Kd.R_over' (zR_ HO_9) (Kd.S_typed (zS_ HO_10)) (by decide) hg); replace BK249 := A0_ (blk_grown (g := gb249) (o := .cells #[.slice A0_0 l0_0.length c0_0, .slice (some ad265) l0_1.length c0_1] 29 (0, 0)) (zK_ BK249) hg (Kd.S_ne HO_10.out BK249.out (by decide))); replace HO261 := A0_ (Kd.R_over' (zR_ HO261) (Kd.S_typed (zS_ HO_10)) (by decide) hg); replace HO264 := A0_ (Kd.R_over' (zR_ HO264) (Kd.S_typed (zS_ HO_10)) (by decide) hg); replace HO269 := A0_ (Kd.R_over' (zR_ HO269) (Kd.S_typed (zS_ HO_10)) (by decide) hg); replace HB := A0_ (hb); have HO275 := A0_ (ho); clear HO_10 HO272 ho hb hg hat))
             go_roundg k1
             case measure => have := HK1.out; omega
             case rel => exact ⟨(y273), (wrap64 (x11_1 + 1)), zt, H', ⟨by have := HK1.out; omega⟩, ⟨zmR HO_9 (fun _ hk => trivial)⟩, ⟨zmS HO275 (fun _ hk => hk.1)⟩, ⟨zK_ BK249⟩, ⟨zB_ HB⟩⟩
            rw [if_neg c25] at H
            exact absurd H (by simp)
           rw [if_neg c22] at H
           have c22b0 : ((rd t250 (rd l0_1 t256)) == a2) = false := beq_eq_false_iff_ne.mpr c22
           have c22b1 : ((rd t250 (rd l0_1 t256)) != a2) = true := bne_iff_ne.mpr c22
           obtain ⟨t276, A39, H⟩ := zbind H
           by_cases c40 : x10_1.length < 5864062014805
           ·rw [if_pos c40] at H
            have LMc40 := A0_ c40; clear c40
            obtain ⟨y279, hy279⟩ : ∃ y_ : List (List Int), y_ = (x10_1 ++ [t276]) := ⟨_, rfl⟩
            replace H : (spec_l9Conj.l0 k1 l1 a2 l3 t250 y279 (wrap64 (x11_1 + 1)) l0_0 l0_1) = some r := zH hy279 H
            have Ny279 := A0_ hy279; clear hy279; have H' := A0_ H; clear H; have hcz41_0 := zc0 BK249; have hcz41_1 := zc1 BK249; have hfz41_0 := kF BK249.out 0; have hfz41_1 := kF BK249.out 1
            go_wp2_with (first | ((with_reducible refine gC (f := 104) rfl ?_); refine zJ (some 26) Try.func104 #[.agg #[.slice A0_0 l0_0.length c0_0, .slice A0_1 l0_1.length c0_1], .int .i64 x11_1] ?_; (with_reducible refine (spec_l7Dart.calls k1 _ _ l0_0 _ _ l0_1 x11_1 t256 _ ?side1 ?side2 ?side3 ?side4 A12.out).mono ?_); (case side1 => exact zC HR0_0 HB); (case side2 => exact HC0_0.out); (case side3 => exact zC HR0_1 HB); (case side4 => exact HC0_1.out); rintro e w42 ⟨rfl, hb⟩; refine ⟨_, rfl, ?_⟩; replace HO_9 := zR HO_9 hb; replace HO_10 := zS HO_10 hb; replace BK249 := zK BK249 hb; replace HB := zB HB hb; (try clear hb); have p257 : 0 ≤ (x11_1 : Int) := zd; have q257 : x11_1 < (l1.length : Int) := zd; obtain ⟨ad257, A257_0, c257_0, e257, hx257_0, hl257_0, hi257_0⟩ := at_L1 HR1.out x11_1 p257 q257; cases e257; try replace hx257_0 := (HB.out.cell (wL w _ hx257_0)).trans hx257_0; have HR257_0 := A0_ hi257_0; have HC257_0 := A0_ hl257_0; clear hi257_0 hl257_0; replace p257 := eq_true p257; replace q257 := eq_true q257; obtain ⟨Ao43, co43, eo43⟩ := rS HO_9.out; subst eo43; have p258 : 0 ≤ (t256 : Int) := zd; have q258 : t256 < (t250.length : Int) := zd; obtain ⟨ad258, e258, hx258_0⟩ := tI (rR HO_9.out).2.2 t256 p258 q258; cases e258; replace p258 := eq_true p258; replace q258 := eq_true q258) | ((with_reducible refine gC (f := 85) rfl ?_); refine zJ (some 38) Try.func85 #[.slice A3 l3.length c3] ?_; (with_reducible refine (spec_l1Back.calls k1 _ _ l3 t259 _ ?side1 ?side2 A17.out).mono ?_); (case side1 => exact zC HR3 HB); (case side2 => exact HC3.out); rintro e w44 ⟨v260, rfl, ho0, hb⟩; refine ⟨_, rfl, ?_⟩; replace HO_10 := A0_ (Kd.S_elder' (zS_ HO_10) (Kd.R_base ho0) hb); have HO261 := A0_ (rL (Kd.R_new' ho0 (rX (zR_ HO_9))) (bZ (zB_ HB))); replace HO_9 := A0_ (Kd.R_elder' (zR_ HO_9) (Kd.R_base ho0) hb); replace BK249 := zK BK249 hb; replace HB := zB HB hb; (try clear hb); (try clear ho0); obtain ⟨Ao45, co45, eo45⟩ := rS HO261.out; subst eo45) | ((with_reducible refine gC (f := 67) rfl ?_); refine zJ (some 40) Try.func67 #[.slice Ao45 t259.length co45, .slice A257_0 (rd_L1 l1 x11_1).length c257_0] ?_; (with_reducible refine (spec_l1Mul.calls k1 _ _ t259 _ _ (rd_L1 l1 x11_1) t262 _ ?side1 ?side2 ?side3 ?side4 A18.out).mono ?_); (case side1 => exact zD HO261); (case side2 => exact (rR HO261.out).2.1); (case side3 => exact zC HR257_0 HB); (case side4 => exact HC257_0.out); rintro e w46 ⟨v263, rfl, ho0, hb⟩; refine ⟨_, rfl, ?_⟩; replace HO_10 := A0_ (Kd.S_elder' (zS_ HO_10) (Kd.R_base ho0) hb); have HO264 := A0_ (rL (Kd.R_new' (Kd.R_new' ho0 (rX (zR_ HO_9))) (rX (zR_ HO261))) (bZ (zB_ HB))); replace HO_9 := A0_ (Kd.R_elder' (zR_ HO_9) (Kd.R_base ho0) hb); replace HO261 := A0_ (Kd.R_elder' (zR_ HO261) (Kd.R_base ho0) hb); replace BK249 := zK BK249 hb; replace HB := zB HB hb; (try clear hb); (try clear ho0); have hcz47_0 := zc0 BK249; have hcz47_1 := zc1 BK249; have hfz47_0 := kF BK249.out 0; have hfz47_1 := kF BK249.out 1; have p265 : 0 ≤ (t256 : Int) := zd; have q265 : t256 < (l0_1.length : Int) := zd; obtain ⟨ad265, e265, hx265_0⟩ := tI HR0_1.out t256 p265 q265; cases e265; try replace hx265_0 := (HB.out.cell (wL w _ hx265_0)).trans hx265_0; replace p265 := eq_true p265; replace q265 := eq_true q265; have p266 : 0 ≤ ((rd l0_1 t256) : Int) := zd; have q266 : (rd l0_1 t256) < (t250.length : Int) := zd; obtain ⟨ad266, e266, hx266_0⟩ := tI (rR HO_9.out).2.2 (rd l0_1 t256) p266 q266; obtain rfl : ad258 = ad266 := (by injection e266); replace p266 := eq_true p266; replace q266 := eq_true q266; obtain ⟨Ao48, co48, eo48⟩ := rS HO264.out; subst eo48) | ((with_reducible refine gC (f := 88) rfl ?_); refine zJ (some 56) Try.func88 #[.slice Ao48 t262.length co48] ?_; (with_reducible refine (spec_l2Copy.calls _ _ t262 t276 _ ?side1 ?side2 A39.out).mono ?_); (case side1 => exact zD HO264); (case side2 => exact (rR HO264.out).2.1); rintro e w49 ⟨v277, rfl, ho0, hb⟩; refine ⟨_, rfl, ?_⟩; replace HO_10 := A0_ (Kd.S_elder' (zS_ HO_10) (Kd.R_base ho0) hb); have HO278 := A0_ (rL (Kd.R_new' (Kd.R_new' (Kd.R_new' ho0 (rX (zR_ HO_9))) (rX (zR_ HO261))) (rX (zR_ HO264))) (bZ (zB_ HB))); replace HO_9 := A0_ (Kd.R_elder' (zR_ HO_9) (Kd.R_base ho0) hb); replace HO261 := A0_ (Kd.R_elder' (zR_ HO261) (Kd.R_base ho0) hb); replace HO264 := A0_ (Kd.R_elder' (zR_ HO264) (Kd.R_base ho0) hb); replace BK249 := zK BK249 hb; replace HB := zB HB hb; (try clear hb); (try clear ho0); obtain ⟨Ao51, co51, eo51⟩ := rS HO278.out; subst eo51) | ((with_reducible refine gB (b := .append) (xs := #[.tmp 54, .tmp 57]) rfl ?_); at_builtin; refine Kd.S_append (Kd.slice 3 (Kd.int .i64)) (w0 := w) w.heap.size rfl (.tmp 54) (.tmp 57) 25 22 (.slice none 0 0) 24 rfl Try.underlying25 info22 rfl (by decide) (by omega) u10 x10_1 t276 [.slice Ao51 t276.length co51] (fun k_ => some k_ ≠ (.slice (some ad258) t250.length co43 : Value).ownBlock ∧ some k_ ≠ (.slice Ao45 t259.length co45 : Value).ownBlock ∧ some k_ ≠ (.slice Ao48 t262.length co48 : Value).ownBlock) (fun k_ => some k_ = (.slice Ao51 t276.length co51 : Value).ownBlock) rfl rfl ?aP (fun k_ hk_ => ((rM (ok' := fun k_ => ((fun k_ => some k_ ≠ (.slice (some ad258) t250.length co43 : Value).ownBlock ∧ some k_ ≠ (.slice Ao45 t259.length co45 : Value).ownBlock ∧ some k_ ≠ (.slice Ao48 t262.length co48 : Value).ownBlock)) k_ ∧ some k_ ≠ (u10 : Value).ownBlock) (Kd.R_apart' (HO278.out) (Kd.S_typed HO_10.out) (by decide)) (fun k_ hk => ⟨⟨hk.1.1.1.2, ⟨hk.1.1.2, hk.1.2⟩⟩, hk.2⟩))).1 k_ hk_.symm) ?aF ?aO ?aB ?aS ?aL ?_; (case aP => exact Kd.M_row (rM (Kd.R_tight rfl (rM (ok' := fun k_ => ((fun k_ => some k_ ≠ (.slice (some ad258) t250.length co43 : Value).ownBlock ∧ some k_ ≠ (.slice Ao45 t259.length co45 : Value).ownBlock ∧ some k_ ≠ (.slice Ao48 t262.length co48 : Value).ownBlock)) k_ ∧ some k_ ≠ (u10 : Value).ownBlock) (Kd.R_apart' (HO278.out) (Kd.S_typed HO_10.out) (by decide)) (fun k_ hk => ⟨⟨hk.1.1.1.2, ⟨hk.1.1.2, hk.1.2⟩⟩, hk.2⟩))) (fun _ h_ => h_))); (case aB => exact (zB_ HB)); (case aF => exact (fun k_ hk => ⟨Kd.fresh' (rX (zR_ HO_9)) k_ hk, Kd.fresh' (rX (zR_ HO261)) k_ hk, Kd.fresh' (rX (zR_ HO264)) k_ hk⟩)); (case aO => exact (zmS HO_10 (fun k_ hk => ⟨⟨hk.1.1.1, ⟨hk.1.1.2, hk.1.2⟩⟩, fun e_ => hk.2 e_⟩))); (case aS => exact (bZ (zB_ HB))); (case aL => have := LMc40.out; omega); intro v280 w50 ho hb hg hat; rw [← Ny279.out] at ho; replace HO_9 := A0_ (Kd.R_over' (zR_ HO_9) (Kd.S_typed (zS_ HO_10)) (by decide) hg); replace BK249 := A0_ (blk_grown (g := gb249) (o := .cells #[.slice A0_0 l0_0.length c0_0, .slice (some ad265) l0_1.length c0_1] 29 (0, 0)) (zK_ BK249) hg (Kd.S_ne HO_10.out BK249.out (by decide))); replace HO261 := A0_ (Kd.R_over' (zR_ HO261) (Kd.S_typed (zS_ HO_10)) (by decide) hg); replace HO264 := A0_ (Kd.R_over' (zR_ HO264) (Kd.S_typed (zS_ HO_10)) (by decide) hg); replace HB := A0_ (hb); have HO281 := A0_ (ho); clear HO_10 HO278 ho hb hg hat))
            go_roundg k1
            case measure => have := HK1.out; omega
            case rel => exact ⟨(y279), (wrap64 (x11_1 + 1)), zt, H', ⟨by have := HK1.out; omega⟩, ⟨zmR HO_9 (fun _ hk => trivial)⟩, ⟨zmS HO281 (fun _ hk => hk.1)⟩, ⟨zK_ BK249⟩, ⟨zB_ HB⟩⟩
           rw [if_neg c40] at H
           exact absurd H (by simp)
          rw [if_neg c21] at H
          exact absurd H (by simp)
         rw [if_neg c20] at H
         exact absurd H (by simp)
        rw [if_neg c19] at H
        exact absurd H (by simp)
       rw [if_neg c16] at H
       have c16b0 : ((rd t250 t256) == a2) = false := beq_eq_false_iff_ne.mpr c16
       have c16b1 : ((rd t250 t256) != a2) = true := bne_iff_ne.mpr c16
       by_cases c52 : t256 < (l0_1.length : Int)
       ·rw [if_pos c52] at H
        have c52b0 := dT c52; clear c52
        by_cases c53 : 0 ≤ (rd l0_1 t256)
        ·rw [if_pos c53] at H
         have c53b0 := dT c53; clear c53
         by_cases c54 : (rd l0_1 t256) < (t250.length : Int)
         ·rw [if_pos c54] at H
          have c54b0 := dT c54; clear c54
          by_cases c55 : (rd t250 (rd l0_1 t256)) = a2
          ·rw [if_pos c55] at H
           have c55b0 : ((rd t250 (rd l0_1 t256)) == a2) = true := beq_iff_eq.mpr c55
           have c55b1 : ((rd t250 (rd l0_1 t256)) != a2) = false := bne_eq_false_iff_eq.mpr c55
           clear c55; obtain ⟨t284, A56, H⟩ := zbind H; obtain ⟨t287, A57, H⟩ := zbind H
           by_cases c58 : x10_1.length < 5864062014805
           ·rw [if_pos c58] at H
            have LMc58 := A0_ c58; clear c58
            obtain ⟨y290, hy290⟩ : ∃ y_ : List (List Int), y_ = (x10_1 ++ [t287]) := ⟨_, rfl⟩
            replace H : (spec_l9Conj.l0 k1 l1 a2 l3 t250 y290 (wrap64 (x11_1 + 1)) l0_0 l0_1) = some r := zH hy290 H
            have Ny290 := A0_ hy290; clear hy290; have H' := A0_ H; clear H; have hcz59_0 := zc0 BK249; have hcz59_1 := zc1 BK249; have hfz59_0 := kF BK249.out 0; have hfz59_1 := kF BK249.out 1
            go_wp2_with (first | ((with_reducible refine gC (f := 104) rfl ?_); refine zJ (some 26) Try.func104 #[.agg #[.slice A0_0 l0_0.length c0_0, .slice A0_1 l0_1.length c0_1], .int .i64 x11_1] ?_; (with_reducible refine (spec_l7Dart.calls k1 _ _ l0_0 _ _ l0_1 x11_1 t256 _ ?side1 ?side2 ?side3 ?side4 A12.out).mono ?_); (case side1 => exact zC HR0_0 HB); (case side2 => exact HC0_0.out); (case side3 => exact zC HR0_1 HB); (case side4 => exact HC0_1.out); rintro e w60 ⟨rfl, hb⟩; refine ⟨_, rfl, ?_⟩; replace HO_9 := zR HO_9 hb; replace HO_10 := zS HO_10 hb; replace BK249 := zK BK249 hb; replace HB := zB HB hb; (try clear hb); have p257 : 0 ≤ (x11_1 : Int) := zd; have q257 : x11_1 < (l1.length : Int) := zd; obtain ⟨ad257, A257_0, c257_0, e257, hx257_0, hl257_0, hi257_0⟩ := at_L1 HR1.out x11_1 p257 q257; cases e257; try replace hx257_0 := (HB.out.cell (wL w _ hx257_0)).trans hx257_0; have HR257_0 := A0_ hi257_0; have HC257_0 := A0_ hl257_0; clear hi257_0 hl257_0; replace p257 := eq_true p257; replace q257 := eq_true q257; obtain ⟨Ao61, co61, eo61⟩ := rS HO_9.out; subst eo61; have p258 : 0 ≤ (t256 : Int) := zd; have q258 : t256 < (t250.length : Int) := zd; obtain ⟨ad258, e258, hx258_0⟩ := tI (rR HO_9.out).2.2 t256 p258 q258; cases e258; replace p258 := eq_true p258; replace q258 := eq_true q258; have hcz62_0 := zc0 BK249; have hcz62_1 := zc1 BK249; have hfz62_0 := kF BK249.out 0; have hfz62_1 := kF BK249.out 1; have p282 : 0 ≤ (t256 : Int) := zd; have q282 : t256 < (l0_1.length : Int) := zd; obtain ⟨ad282, e282, hx282_0⟩ := tI HR0_1.out t256 p282 q282; cases e282; try replace hx282_0 := (HB.out.cell (wL w _ hx282_0)).trans hx282_0; replace p282 := eq_true p282; replace q282 := eq_true q282; have p283 : 0 ≤ ((rd l0_1 t256) : Int) := zd; have q283 : (rd l0_1 t256) < (t250.length : Int) := zd; obtain ⟨ad283, e283, hx283_0⟩ := tI (rR HO_9.out).2.2 (rd l0_1 t256) p283 q283; obtain rfl : ad258 = ad283 := (by injection e283); replace p283 := eq_true p283; replace q283 := eq_true q283) | ((with_reducible refine gC (f := 67) rfl ?_); refine zJ (some 53) Try.func67 #[.slice A257_0 (rd_L1 l1 x11_1).length c257_0, .slice A3 l3.length c3] ?_; (with_reducible refine (spec_l1Mul.calls k1 _ _ (rd_L1 l1 x11_1) _ _ l3 t284 _ ?side1 ?side2 ?side3 ?side4 A56.out).mono ?_); (case side1 => exact zC HR257_0 HB); (case side2 => exact HC257_0.out); (case side3 => exact zC HR3 HB); (case side4 => exact HC3.out); rintro e w63 ⟨v285, rfl, ho0, hb⟩; refine ⟨_, rfl, ?_⟩; replace HO_10 := A0_ (Kd.S_elder' (zS_ HO_10) (Kd.R_base ho0) hb); have HO286 := A0_ (rL (Kd.R_new' ho0 (rX (zR_ HO_9))) (bZ (zB_ HB))); replace HO_9 := A0_ (Kd.R_elder' (zR_ HO_9) (Kd.R_base ho0) hb); replace BK249 := zK BK249 hb; replace HB := zB HB hb; (try clear hb); (try clear ho0); obtain ⟨Ao64, co64, eo64⟩ := rS HO286.out; subst eo64) | ((with_reducible refine gC (f := 88) rfl ?_); refine zJ (some 56) Try.func88 #[.slice Ao64 t284.length co64] ?_; (with_reducible refine (spec_l2Copy.calls _ _ t284 t287 _ ?side1 ?side2 A57.out).mono ?_); (case side1 => exact zD HO286); (case side2 => exact (rR HO286.out).2.1); rintro e w65 ⟨v288, rfl, ho0, hb⟩; refine ⟨_, rfl, ?_⟩; replace HO_10 := A0_ (Kd.S_elder' (zS_ HO_10) (Kd.R_base ho0) hb); have HO289 := A0_ (rL (Kd.R_new' (Kd.R_new' ho0 (rX (zR_ HO_9))) (rX (zR_ HO286))) (bZ (zB_ HB))); replace HO_9 := A0_ (Kd.R_elder' (zR_ HO_9) (Kd.R_base ho0) hb); replace HO286 := A0_ (Kd.R_elder' (zR_ HO286) (Kd.R_base ho0) hb); replace BK249 := zK BK249 hb; replace HB := zB HB hb; (try clear hb); (try clear ho0); obtain ⟨Ao67, co67, eo67⟩ := rS HO289.out; subst eo67) | ((with_reducible refine gB (b := .append) (xs := #[.tmp 54, .tmp 57]) rfl ?_); at_builtin; refine Kd.S_append (Kd.slice 3 (Kd.int .i64)) (w0 := w) w.heap.size rfl (.tmp 54) (.tmp 57) 25 22 (.slice none 0 0) 24 rfl Try.underlying25 info22 rfl (by decide) (by omega) u10 x10_1 t287 [.slice Ao67 t287.length co67] (fun k_ => some k_ ≠ (.slice (some ad258) t250.length co61 : Value).ownBlock ∧ some k_ ≠ (.slice Ao64 t284.length co64 : Value).ownBlock) (fun k_ => some k_ = (.slice Ao67 t287.length co67 : Value).ownBlock) rfl rfl ?aP (fun k_ hk_ => ((rM (ok' := fun k_ => ((fun k_ => some k_ ≠ (.slice (some ad258) t250.length co61 : Value).ownBlock ∧ some k_ ≠ (.slice Ao64 t284.length co64 : Value).ownBlock)) k_ ∧ some k_ ≠ (u10 : Value).ownBlock) (Kd.R_apart' (HO289.out) (Kd.S_typed HO_10.out) (by decide)) (fun k_ hk => ⟨⟨hk.1.1.2, hk.1.2⟩, hk.2⟩))).1 k_ hk_.symm) ?aF ?aO ?aB ?aS ?aL ?_; (case aP => exact Kd.M_row (rM (Kd.R_tight rfl (rM (ok' := fun k_ => ((fun k_ => some k_ ≠ (.slice (some ad258) t250.length co61 : Value).ownBlock ∧ some k_ ≠ (.slice Ao64 t284.length co64 : Value).ownBlock)) k_ ∧ some k_ ≠ (u10 : Value).ownBlock) (Kd.R_apart' (HO289.out) (Kd.S_typed HO_10.out) (by decide)) (fun k_ hk => ⟨⟨hk.1.1.2, hk.1.2⟩, hk.2⟩))) (fun _ h_ => h_))); (case aB => exact (zB_ HB)); (case aF => exact (fun k_ hk => ⟨Kd.fresh' (rX (zR_ HO_9)) k_ hk, Kd.fresh' (rX (zR_ HO286)) k_ hk⟩)); (case aO => exact (zmS HO_10 (fun k_ hk => ⟨⟨hk.1.1, hk.1.2⟩, fun e_ => hk.2 e_⟩))); (case aS => exact (bZ (zB_ HB))); (case aL => have := LMc58.out; omega); intro v291 w66 ho hb hg hat; rw [← Ny290.out] at ho; replace HO_9 := A0_ (Kd.R_over' (zR_ HO_9) (Kd.S_typed (zS_ HO_10)) (by decide) hg); replace BK249 := A0_ (blk_grown (g := gb249) (o := .cells #[.slice A0_0 l0_0.length c0_0, .slice (some ad282) l0_1.length c0_1] 29 (0, 0)) (zK_ BK249) hg (Kd.S_ne HO_10.out BK249.out (by decide))); replace HO286 := A0_ (Kd.R_over' (zR_ HO286) (Kd.S_typed (zS_ HO_10)) (by decide) hg); replace HB := A0_ (hb); have HO292 := A0_ (ho); clear HO_10 HO289 ho hb hg hat))
            go_roundg k1
            case measure => have := HK1.out; omega
            case rel => exact ⟨(y290), (wrap64 (x11_1 + 1)), zt, H', ⟨by have := HK1.out; omega⟩, ⟨zmR HO_9 (fun _ hk => trivial)⟩, ⟨zmS HO292 (fun _ hk => hk.1)⟩, ⟨zK_ BK249⟩, ⟨zB_ HB⟩⟩
           rw [if_neg c58] at H
           exact absurd H (by simp)
          rw [if_neg c55] at H
          have c55b0 : ((rd t250 (rd l0_1 t256)) == a2) = false := beq_eq_false_iff_ne.mpr c55
          have c55b1 : ((rd t250 (rd l0_1 t256)) != a2) = true := bne_iff_ne.mpr c55
          obtain ⟨t293, A68, H⟩ := zbind H
          by_cases c69 : x10_1.length < 5864062014805
          ·rw [if_pos c69] at H
           have LMc69 := A0_ c69; clear c69
           obtain ⟨y296, hy296⟩ : ∃ y_ : List (List Int), y_ = (x10_1 ++ [t293]) := ⟨_, rfl⟩
           replace H : (spec_l9Conj.l0 k1 l1 a2 l3 t250 y296 (wrap64 (x11_1 + 1)) l0_0 l0_1) = some r := zH hy296 H
           have Ny296 := A0_ hy296; clear hy296; have H' := A0_ H; clear H; have hcz70_0 := zc0 BK249; have hcz70_1 := zc1 BK249; have hfz70_0 := kF BK249.out 0; have hfz70_1 := kF BK249.out 1
           go_wp2_with (first | ((with_reducible refine gC (f := 104) rfl ?_); refine zJ (some 26) Try.func104 #[.agg #[.slice A0_0 l0_0.length c0_0, .slice A0_1 l0_1.length c0_1], .int .i64 x11_1] ?_; (with_reducible refine (spec_l7Dart.calls k1 _ _ l0_0 _ _ l0_1 x11_1 t256 _ ?side1 ?side2 ?side3 ?side4 A12.out).mono ?_); (case side1 => exact zC HR0_0 HB); (case side2 => exact HC0_0.out); (case side3 => exact zC HR0_1 HB); (case side4 => exact HC0_1.out); rintro e w71 ⟨rfl, hb⟩; refine ⟨_, rfl, ?_⟩; replace HO_9 := zR HO_9 hb; replace HO_10 := zS HO_10 hb; replace BK249 := zK BK249 hb; replace HB := zB HB hb; (try clear hb); have p257 : 0 ≤ (x11_1 : Int) := zd; have q257 : x11_1 < (l1.length : Int) := zd; obtain ⟨ad257, A257_0, c257_0, e257, hx257_0, hl257_0, hi257_0⟩ := at_L1 HR1.out x11_1 p257 q257; cases e257; try replace hx257_0 := (HB.out.cell (wL w _ hx257_0)).trans hx257_0; have HR257_0 := A0_ hi257_0; have HC257_0 := A0_ hl257_0; clear hi257_0 hl257_0; replace p257 := eq_true p257; replace q257 := eq_true q257; obtain ⟨Ao72, co72, eo72⟩ := rS HO_9.out; subst eo72; have p258 : 0 ≤ (t256 : Int) := zd; have q258 : t256 < (t250.length : Int) := zd; obtain ⟨ad258, e258, hx258_0⟩ := tI (rR HO_9.out).2.2 t256 p258 q258; cases e258; replace p258 := eq_true p258; replace q258 := eq_true q258; have hcz73_0 := zc0 BK249; have hcz73_1 := zc1 BK249; have hfz73_0 := kF BK249.out 0; have hfz73_1 := kF BK249.out 1; have p282 : 0 ≤ (t256 : Int) := zd; have q282 : t256 < (l0_1.length : Int) := zd; obtain ⟨ad282, e282, hx282_0⟩ := tI HR0_1.out t256 p282 q282; cases e282; try replace hx282_0 := (HB.out.cell (wL w _ hx282_0)).trans hx282_0; replace p282 := eq_true p282; replace q282 := eq_true q282; have p283 : 0 ≤ ((rd l0_1 t256) : Int) := zd; have q283 : (rd l0_1 t256) < (t250.length : Int) := zd; obtain ⟨ad283, e283, hx283_0⟩ := tI (rR HO_9.out).2.2 (rd l0_1 t256) p283 q283; obtain rfl : ad258 = ad283 := (by injection e283); replace p283 := eq_true p283; replace q283 := eq_true q283) | ((with_reducible refine gC (f := 88) rfl ?_); refine zJ (some 56) Try.func88 #[.slice A257_0 (rd_L1 l1 x11_1).length c257_0] ?_; (with_reducible refine (spec_l2Copy.calls _ _ (rd_L1 l1 x11_1) t293 _ ?side1 ?side2 A68.out).mono ?_); (case side1 => exact zC HR257_0 HB); (case side2 => exact HC257_0.out); rintro e w74 ⟨v294, rfl, ho0, hb⟩; refine ⟨_, rfl, ?_⟩; replace HO_10 := A0_ (Kd.S_elder' (zS_ HO_10) (Kd.R_base ho0) hb); have HO295 := A0_ (rL (Kd.R_new' ho0 (rX (zR_ HO_9))) (bZ (zB_ HB))); replace HO_9 := A0_ (Kd.R_elder' (zR_ HO_9) (Kd.R_base ho0) hb); replace BK249 := zK BK249 hb; replace HB := zB HB hb; (try clear hb); (try clear ho0); obtain ⟨Ao76, co76, eo76⟩ := rS HO295.out; subst eo76) | ((with_reducible refine gB (b := .append) (xs := #[.tmp 54, .tmp 57]) rfl ?_); at_builtin; refine Kd.S_append (Kd.slice 3 (Kd.int .i64)) (w0 := w) w.heap.size rfl (.tmp 54) (.tmp 57) 25 22 (.slice none 0 0) 24 rfl Try.underlying25 info22 rfl (by decide) (by omega) u10 x10_1 t293 [.slice Ao76 t293.length co76] (fun k_ => some k_ ≠ (.slice (some ad258) t250.length co72 : Value).ownBlock) (fun k_ => some k_ = (.slice Ao76 t293.length co76 : Value).ownBlock) rfl rfl ?aP (fun k_ hk_ => ((rM (ok' := fun k_ => ((fun k_ => some k_ ≠ (.slice (some ad258) t250.length co72 : Value).ownBlock)) k_ ∧ some k_ ≠ (u10 : Value).ownBlock) (Kd.R_apart' (HO295.out) (Kd.S_typed HO_10.out) (by decide)) (fun k_ hk => ⟨hk.1.2, hk.2⟩))).1 k_ hk_.symm) ?aF ?aO ?aB ?aS ?aL ?_; (case aP => exact Kd.M_row (rM (Kd.R_tight rfl (rM (ok' := fun k_ => ((fun k_ => some k_ ≠ (.slice (some ad258) t250.length co72 : Value).ownBlock)) k_ ∧ some k_ ≠ (u10 : Value).ownBlock) (Kd.R_apart' (HO295.out) (Kd.S_typed HO_10.out) (by decide)) (fun k_ hk => ⟨hk.1.2, hk.2⟩))) (fun _ h_ => h_))); (case aB => exact (zB_ HB)); (case aF => exact (fun k_ hk => Kd.fresh' (rX (zR_ HO_9)) k_ hk)); (case aO => exact (zmS HO_10 (fun k_ hk => ⟨hk.1, fun e_ => hk.2 e_⟩))); (case aS => exact (bZ (zB_ HB))); (case aL => have := LMc69.out; omega); intro v297 w75 ho hb hg hat; rw [← Ny296.out] at ho; replace HO_9 := A0_ (Kd.R_over' (zR_ HO_9) (Kd.S_typed (zS_ HO_10)) (by decide) hg); replace BK249 := A0_ (blk_grown (g := gb249) (o := .cells #[.slice A0_0 l0_0.length c0_0, .slice (some ad282) l0_1.length c0_1] 29 (0, 0)) (zK_ BK249) hg (Kd.S_ne HO_10.out BK249.out (by decide))); replace HB := A0_ (hb); have HO298 := A0_ (ho); clear HO_10 HO295 ho hb hg hat))
           go_roundg k1
           case measure => have := HK1.out; omega
           case rel => exact ⟨(y296), (wrap64 (x11_1 + 1)), zt, H', ⟨by have := HK1.out; omega⟩, ⟨zmR HO_9 (fun _ hk => trivial)⟩, ⟨zS_ HO298⟩, ⟨zK_ BK249⟩, ⟨zB_ HB⟩⟩
          rw [if_neg c69] at H
          exact absurd H (by simp)
         rw [if_neg c54] at H
         exact absurd H (by simp)
        rw [if_neg c53] at H
        exact absurd H (by simp)
       rw [if_neg c52] at H
       exact absurd H (by simp)
      rw [if_neg c15] at H
      exact absurd H (by simp)
     rw [if_neg c14] at H
     exact absurd H (by simp)
    rw [if_neg c13] at H
    exact absurd H (by simp)
   rw [if_neg c11] at H; have c11b0 := dF c11; clear c11; obtain rfl := sI H
   go_wp2
   go_ret
   exact ⟨_, by first | rfl | (simp [*] <;> rfl), zmS HO_10 (fun _ hk => trivial), zB_ HB⟩

end Go.Proofs.Ytmcgkckdnelcdaa.PFnExactCoverTree
