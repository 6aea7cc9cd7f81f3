-- Made by a program of this session (wip/tools) out of the loaded program; not trusted: Lean checks it.
import Derived.Test.YtmcgkckdnelcdaaPFnExactCoverConjx0
import Derived.Test.YtmcgkckdnelcdaaPFnExactCoverConjx2
import Derived.Test.YtmcgkckdnelcdaaPFnExactCoverConjx3
import Derived.Test.YtmcgkckdnelcdaaPFnExactCoverConjx4
-- packed
namespace Go.Proofs.Ytmcgkckdnelcdaa.PFnExactCoverConj
open Go.RowKit Go.Proofs.YtmcgkckdnelcdaaW.PrintWords Go.Proofs.YtmcgkckdnelcdaaW.PrintLast Go.Proofs.YtmcgkckdnelcdaaW.PrintMore
attribute [local go_sem] max2_int min2_int max_two min_two max_three min_three max_four min_four   -- for this text's walks alone
set_option linter.unusedVariables false
set_option linter.unusedSimpArgs false

/-! ### spec_l7Dart: function 104 -/
def spec_l7Dart.l0 : Nat → Int → List Int → Int → Option (Int)
  | 0, _, _, _ => none
  | k + 1, x1, x5, x6 => if x6 < (x5.length : Int) then (if 0 ≤ x6 then (if (rd x5 x6) = x1 then (some x6) else (spec_l7Dart.l0 k x1 x5 (wrap64 (x6 + 1)))) else (none)) else (some (-1))
def spec_l7Dart.f (k : Nat) (l0_0 : List Int) (l0_1 : List Int) (a1 : Int) : Option (Int) := (spec_l7Edges.f k l0_0 l0_1).bind fun t247 => (spec_l7Dart.l0 k a1 t247 0)
set_option maxHeartbeats 8000000 in
set_option maxRecDepth 100000 in
theorem spec_l7Dart.calls (k : Nat) (A0_0 : Option Addr) (c0_0 : Nat) (l0_0 : List Int) (A0_1 : Option Addr) (c0_1 : Nat) (l0_1 : List Int) (a1 : Int) (r : Int) (w : World) (hr0_0 : Kd.C (Kd.int .i64) w A0_0 l0_0.length l0_0) (hc0_0 : l0_0.length ≤ c0_0) (hr0_1 : Kd.C (Kd.int .i64) w A0_1 l0_1.length l0_1) (hc0_1 : l0_1.length ≤ c0_1) (h : spec_l7Dart.f k l0_0 l0_1 a1 = some r) :
    Calls Try.prog 104 #[.agg #[.slice A0_0 l0_0.length c0_0, .slice A0_1 l0_1.length c0_1], .int .i64 a1] w fun e w' => e = .returned (.int .i64 r) ∧ Below w.heap.size w w' := by
 have hu29 := Try.underlying29; have HR0_0 := A0_ hr0_0; have HC0_0 := A0_ hc0_0; clear hr0_0 hc0_0; have HR0_1 := A0_ hr0_1; have HC0_1 := A0_ hc0_1; clear hr0_1 hc0_1
 have HB := A0_ (Below.refl w.heap.size w)
 have H : ((spec_l7Edges.f k l0_0 l0_1).bind fun t247 => (spec_l7Dart.l0 k a1 t247 0)) = some r := h
 clear h; obtain ⟨t247, A3, H⟩ := zbind H; have H' := A0_ H; clear H
 go_enter Try.func104, Try.ntmps104
 go_wp2_with (first | ((with_reducible refine gD (N := 2) rfl ?_); refine zX (N := 2) (cs := #[.slice A0_0 l0_0.length c0_0, .slice A0_1 l0_1.length c0_1]) (t := 29) ?_; intro gb246 hg w4 hbox hb; have BK246 := A0_ (hbox); have GW246 := zG hg HB; have GE246 := zG hg HB; replace HB := zB HB hb; clear hb hbox hg; have hcz5_0 := zc0 BK246; have hcz5_1 := zc1 BK246; have hfz5_0 := kF BK246.out 0; have hfz5_1 := kF BK246.out 1) | ((with_reducible refine gC (f := 106) rfl ?_); refine zJ (some 8) Try.func106 #[.agg #[.slice A0_0 l0_0.length c0_0, .slice A0_1 l0_1.length c0_1]] ?_; (with_reducible refine (spec_l7Edges.calls k _ _ l0_0 _ _ l0_1 t247 _ ?side1 ?side2 ?side3 ?side4 A3.out).mono ?_); (case side1 => exact zC HR0_0 HB); (case side2 => exact HC0_0.out); (case side3 => exact zC HR0_1 HB); (case side4 => exact HC0_1.out); rintro e w6 ⟨v248, rfl, ho0, hb⟩; refine ⟨_, rfl, ?_⟩; have HO249 := A0_ (rL ho0 (bZ (zB_ HB))); replace BK246 := zK BK246 hb; replace HB := zB HB hb; (try clear hb); (try clear ho0)))
 go_loopg [6] k (fun kq v6 w' => ∃ (x6_1 : Int), v6 = .int .i64 x6_1 ∧ Aside0 (spec_l7Dart.l0 kq a1 t247 x6_1 = some r) ∧ Aside0 (kq ≤ k) ∧ Aside0 (Kd.R (Kd.int .i64) 3 w' w.heap.size (fun _ => True) v248 t247) ∧ Aside0 (w'.heap[gb246]? = some (.cells #[(.slice A0_0 l0_0.length c0_0), (.slice A0_1 l0_1.length c0_1)] 29 (0, 0))) ∧ Aside0 (Below w.heap.size w w'))
 case atStart => exact ⟨(0), zt, H', ⟨Nat.le_refl _⟩, ⟨zR_ HO249⟩, ⟨zK_ BK246⟩, ⟨zB_ HB⟩⟩
 case round =>
  clear H'; (try clear c1); (try clear p2); (try clear hcz5_0); (try clear hcz5_1); (try clear hfz5_0); (try clear hfz5_1); obtain ⟨x6_1, rfl, HA, HK1, HO_5, BK246, HB⟩ := hrel
  cases gk with
  | zero => exact absurd HA.out (by simp [spec_l7Dart.l0])
  | succ k1 =>
   have H := HA.out; clear HA; simp only [spec_l7Dart.l0] at H
   by_cases c7 : x6_1 < (t247.length : Int)
   ·rw [if_pos c7] at H
    have c7b0 := dT c7; clear c7
    by_cases c8 : 0 ≤ x6_1
    ·rw [if_pos c8] at H
     have c8b0 := dT c8; clear c8
     by_cases c9 : (rd t247 x6_1) = a1
     ·rw [if_pos c9] at H
      have c9b0 : ((rd t247 x6_1) == a1) = true := beq_iff_eq.mpr c9
      have c9b1 : ((rd t247 x6_1) != a1) = false := bne_eq_false_iff_eq.mpr c9
      clear c9; obtain rfl := sI H; obtain ⟨Ao10, co10, eo10⟩ := rS HO_5.out; subst eo10
      have p250 : 0 ≤ (x6_1 : Int) := zd
      have q250 : x6_1 < (t247.length : Int) := zd
      obtain ⟨ad250, e250, hx250_0⟩ := tI (rR HO_5.out).2.2 x6_1 p250 q250
      cases e250
      replace p250 := eq_true p250; replace q250 := eq_true q250
      go_wp2
      go_ret
      exact ⟨by first | rfl | (simp [*] <;> rfl), zB_ HB⟩
     rw [if_neg c9] at H
     have c9b0 : ((rd t247 x6_1) == a1) = false := beq_eq_false_iff_ne.mpr c9
     have c9b1 : ((rd t247 x6_1) != a1) = true := bne_iff_ne.mpr c9
     have H' := A0_ H; clear H; obtain ⟨Ao11, co11, eo11⟩ := rS HO_5.out; subst eo11
     have p250 : 0 ≤ (x6_1 : Int) := zd
     have q250 : x6_1 < (t247.length : Int) := zd
     obtain ⟨ad250, e250, hx250_0⟩ := tI (rR HO_5.out).2.2 x6_1 p250 q250
     cases e250
     replace p250 := eq_true p250; replace q250 := eq_true q250
     go_wp2
     go_roundg k1
     case measure => have := HK1.out; omega
     case rel => exact ⟨(wrap64 (x6_1 + 1)), zt, H', ⟨by have := HK1.out; omega⟩, ⟨zR_ HO_5⟩, ⟨zK_ BK246⟩, ⟨zB_ HB⟩⟩
    rw [if_neg c8] at H
    exact absurd H (by simp)
   rw [if_neg c7] at H; have c7b0 := dF c7; clear c7; obtain rfl := sI H; obtain ⟨Ao12, co12, eo12⟩ := rS HO_5.out; subst eo12
   go_wp2
   go_ret
   exact ⟨by first | rfl | (simp [*] <;> rfl), zB_ HB⟩

/-! ### spec_l9Conj: function 81 -/
def spec_l9Conj.l0 : Nat → List (List Int) → Int → List Int → List Int → List (List Int) → Int → List Int → List Int → Option ((List (List Int)))
  | 0, _, _, _, _, _, _, _, _ => none
  | k + 1, x1, x2, x3, x9, x10, x11, x252000, x252001 => if x11 < (x1.length : Int) then ((spec_l7Dart.f k x252000 x252001 x11).bind fun t258 => (if 0 ≤ x11 then (if 0 ≤ t258 then (if t258 < (x9.length : Int) then (if (rd x9 t258) = x2 then ((spec_l1Back.f k x3).bind fun t261 => ((spec_l1Mul.f k t261 (rd_L1 x1 x11)).bind fun t264 => (if t258 < (x252001.length : Int) then (if 0 ≤ (rd x252001 t258) then (if (rd x252001 t258) < (x9.length : Int) then (if (rd x9 (rd x252001 t258)) = x2 then ((spec_l1Mul.f k t264 x3).bind fun t269 => ((spec_l2Copy.f t269).bind fun t272 => (if x10.length < 5864062014805 then (spec_l9Conj.l0 k x1 x2 x3 x9 (x10 ++ [t272]) (wrap64 (x11 + 1)) x252000 x252001) else (none)))) else ((spec_l2Copy.f t264).bind fun t278 => (if x10.length < 5864062014805 then (spec_l9Conj.l0 k x1 x2 x3 x9 (x10 ++ [t278]) (wrap64 (x11 + 1)) x252000 x252001) else (none)))) else (none)) else (none)) else (none)))) else (if t258 < (x252001.length : Int) then (if 0 ≤ (rd x252001 t258) then (if (rd x252001 t258) < (x9.length : Int) then (if (rd x9 (rd x252001 t258)) = x2 then ((spec_l1Mul.f k (rd_L1 x1 x11) x3).bind fun t286 => ((spec_l2Copy.f t286).bind fun t289 => (if x10.length < 5864062014805 then (spec_l9Conj.l0 k x1 x2 x3 x9 (x10 ++ [t289]) (wrap64 (x11 + 1)) x252000 x252001) else (none)))) else ((spec_l2Copy.f (rd_L1 x1 x11)).bind fun t295 => (if x10.length < 5864062014805 then (spec_l9Conj.l0 k x1 x2 x3 x9 (x10 ++ [t295]) (wrap64 (x11 + 1)) x252000 x252001) else (none)))) else (none)) else (none)) else (none))) else (none)) else (none)) else (none))) else (some x10)
def spec_l9Conj.f (k : Nat) (l0_0 : List Int) (l0_1 : List Int) (l1 : List (List Int)) (a2 : Int) (l3 : List Int) : Option ((List (List Int))) := (spec_l7Vertices.f k l0_0).bind fun t252 => (spec_l9Conj.l0 k l1 a2 l3 t252 (([] : List (List Int))) 0 l0_0 l0_1)
set_option maxHeartbeats 8000000 in
set_option maxRecDepth 100000 in
theorem spec_l9Conj.calls (k : Nat) (A0_0 : Option Addr) (c0_0 : Nat) (l0_0 : List Int) (A0_1 : Option Addr) (c0_1 : Nat) (l0_1 : List Int) (A1 : Option Addr) (c1 : Nat) (l1 : List (List Int)) (a2 : Int) (A3 : Option Addr) (c3 : Nat) (l3 : List Int) (r : List (List Int)) (w : World) (hr0_0 : Kd.C (Kd.int .i64) w A0_0 l0_0.length l0_0) (hc0_0 : l0_0.length ≤ c0_0) (hr0_1 : Kd.C (Kd.int .i64) w A0_1 l0_1.length l0_1) (hc0_1 : l0_1.length ≤ c0_1) (hr1 : Kd.C (Kd.slice 3 (Kd.int .i64)) w A1 l1.length l1) (hc1 : l1.length ≤ c1) (hr3 : Kd.C (Kd.int .i64) w A3 l3.length l3) (hc3 : l3.length ≤ c3) (h : spec_l9Conj.f k l0_0 l0_1 l1 a2 l3 = some r) :
    Calls Try.prog 81 #[.agg #[.slice A0_0 l0_0.length c0_0, .slice A0_1 l0_1.length c0_1], .slice A1 l1.length c1, .int .i64 a2, .slice A3 l3.length c3] w fun e w' => ∃ v0_ : Value, e = .returned (v0_) ∧ Kd.S (Kd.slice 3 (Kd.int .i64)) 22 w' w.heap.size (fun _ => True) v0_ r ∧ Below w.heap.size w w' := by
 have hu29 := Try.underlying29; have HR0_0 := A0_ hr0_0; have HC0_0 := A0_ hc0_0; clear hr0_0 hc0_0; have HR0_1 := A0_ hr0_1; have HC0_1 := A0_ hc0_1; clear hr0_1 hc0_1; have HR1 := A0_ hr1; have HC1 := A0_ hc1; clear hr1 hc1; have HR3 := A0_ hr3; have HC3 := A0_ hc3; clear hr3 hc3
 have HB := A0_ (Below.refl w.heap.size w)
 have H : ((spec_l7Vertices.f k l0_0).bind fun t252 => (spec_l9Conj.l0 k l1 a2 l3 t252 (([] : List (List Int))) 0 l0_0 l0_1)) = some r := h
 clear h; obtain ⟨t252, A5, H⟩ := zbind H
 obtain ⟨y255, hy255⟩ : ∃ y_ : List (List Int), y_ = (([] : List (List Int))) := ⟨_, rfl⟩
 replace H : (spec_l9Conj.l0 k l1 a2 l3 t252 y255 0 l0_0 l0_1) = some r := zH hy255 H
 have Ny255 := A0_ hy255; clear hy255; have H' := A0_ H; clear H
 go_enter Try.func81, Try.ntmps81
 go_wp2_with (first | ((with_reducible refine gD (N := 4) rfl ?_); refine zX (N := 4) (cs := #[.slice A0_0 l0_0.length c0_0, .slice A0_1 l0_1.length c0_1]) (t := 29) ?_; intro gb251 hg w6 hbox hb; have BK251 := A0_ (hbox); have GW251 := zG hg HB; have GE251 := zG hg HB; replace HB := zB HB hb; clear hb hbox hg; have hcz7_0 := zc0 BK251; have hcz7_1 := zc1 BK251; have hfz7_0 := kF BK251.out 0; have hfz7_1 := kF BK251.out 1) | ((with_reducible refine gC (f := 82) rfl ?_); refine zJ (some 16) Try.func82 #[.slice A0_0 l0_0.length c0_0] ?_; (with_reducible refine (spec_l7Vertices.calls k _ _ l0_0 t252 _ ?side1 ?side2 A5.out).mono ?_); (case side1 => exact zC HR0_0 HB); (case side2 => exact HC0_0.out); rintro e w8 ⟨v253, rfl, ho0, hb⟩; refine ⟨_, rfl, ?_⟩; have HO254 := A0_ (rL ho0 (bZ (zB_ HB))); replace BK251 := zK BK251 hb; replace HB := zB HB hb; (try clear hb); (try clear ho0)) | ((with_reducible refine gD (N := 17) rfl ?_); refine Kd.S_lit (Kd.slice 3 (Kd.int .i64)) _ 22 ?hg (N := 17) ?hd (xs := ([] : List (List Int))) (inner := []) (ok := fun _ => True) (okp := fun _ => True) ?hr ?hp (fun _ hk => hk) trivial (Below.refl _ _) (Nat.le_refl _) (by simp) ?_; (case hd => rfl); (case hg => rfl); (case hr => first | (go_simp; done) | (go_simp; rfl)); (case hp => exact (Reps.none _ _)); intro v256 w9 ho10 hb hg_ hnew_; clear hg_ hnew_; (first | rw [← Ny255.out] at ho10 | (simp only [Int.reduceToNat] at ho10; rw [← Ny255.out] at ho10)); have HO257 := A0_ (Kd.S_lower (Kd.S_new' ho10 (rX (zR_ HO254))) (bZ (zB_ HB))); replace HO254 := zR HO254 hb; replace BK251 := zK BK251 hb; replace HB := zB HB hb; clear hb ho10))
 go_loopg [10, 11] k (fun kq v10 v11 w' => ∃ (x10_1 : List (List Int)) (x11_1 : Int), v11 = .int .i64 x11_1 ∧ Aside0 (spec_l9Conj.l0 kq l1 a2 l3 t252 x10_1 x11_1 l0_0 l0_1 = some r) ∧ Aside0 (kq ≤ k) ∧ Aside0 (Kd.R (Kd.int .i64) 3 w' w.heap.size (fun _ => True) v253 t252) ∧ Aside0 (Kd.S (Kd.slice 3 (Kd.int .i64)) 22 w' w.heap.size (fun k_ => some k_ ≠ (v253 : Value).ownBlock) v10 x10_1) ∧ Aside0 (w'.heap[gb251]? = some (.cells #[(.slice A0_0 l0_0.length c0_0), (.slice A0_1 l0_1.length c0_1)] 29 (0, 0))) ∧ Aside0 (Below w.heap.size w w'))
 case atStart => exact ⟨(y255), (0), zt, H', ⟨Nat.le_refl _⟩, ⟨zR_ HO254⟩, ⟨zmS HO257 (fun _ hk => hk.2)⟩, ⟨zK_ BK251⟩, ⟨zB_ HB⟩⟩
 case round =>
  clear H'; (try clear c1); (try clear p2); (try clear c3); (try clear c8); (try clear hcz7_0); (try clear hcz7_1); (try clear hfz7_0); (try clear hfz7_1); obtain ⟨x10_1, x11_1, rfl, HA, HK1, HO_9, HO_10, BK251, HB⟩ := hrel
  cases gk with
  | zero => exact absurd HA.out (by simp [spec_l9Conj.l0])
  | succ k1 =>
   have H := HA.out; clear HA; simp only [spec_l9Conj.l0] at H
   by_cases c11 : x11_1 < (l1.length : Int)
   ·rw [if_pos c11] at H
    have c11b0 := dT c11; clear c11; obtain ⟨t258, A12, H⟩ := zbind H
    by_cases c13 : 0 ≤ x11_1
    ·rw [if_pos c13] at H
     have c13b0 := dT c13; clear c13
     by_cases c14 : 0 ≤ t258
     ·rw [if_pos c14] at H
      have c14b0 := dT c14; clear c14
      by_cases c15 : t258 < (t252.length : Int)
      ·rw [if_pos c15] at H
       have c15b0 := dT c15; clear c15
       by_cases c16 : (rd t252 t258) = a2
       ·rw [if_pos c16] at H
        have c16b0 : ((rd t252 t258) == a2) = true := beq_iff_eq.mpr c16
        have c16b1 : ((rd t252 t258) != a2) = false := bne_eq_false_iff_eq.mpr c16
        clear c16; obtain ⟨t261, A17, H⟩ := zbind H; obtain ⟨t264, A18, H⟩ := zbind H
        by_cases c19 : t258 < (l0_1.length : Int)
        ·rw [if_pos c19] at H
         have c19b0 := dT c19; clear c19
         by_cases c20 : 0 ≤ (rd l0_1 t258)
         ·rw [if_pos c20] at H
          have c20b0 := dT c20; clear c20
          by_cases c21 : (rd l0_1 t258) < (t252.length : Int)
          ·rw [if_pos c21] at H
           have c21b0 := dT c21; clear c21
           by_cases c22 : (rd t252 (rd l0_1 t258)) = a2
           ·rw [if_pos c22] at H
            have c22b0 : ((rd t252 (rd l0_1 t258)) == a2) = true := beq_iff_eq.mpr c22
            have c22b1 : ((rd t252 (rd l0_1 t258)) != a2) = false := bne_eq_false_iff_eq.mpr c22
            clear c22; obtain ⟨t269, A23, H⟩ := zbind H; obtain ⟨t272, A24, H⟩ := zbind H
            by_cases c25 : x10_1.length < 5864062014805
            ·rw [if_pos c25] at H
             have LMc25 := A0_ c25; clear c25
             obtain ⟨y275, hy275⟩ : ∃ y_ : List (List Int), y_ = (x10_1 ++ [t272]) := ⟨_, rfl⟩
             replace H : (spec_l9Conj.l0 k1 l1 a2 l3 t252 y275 (wrap64 (x11_1 + 1)) l0_0 l0_1) = some r := zH hy275 H
             have Ny275 := A0_ hy275; clear hy275; have H' := A0_ H; clear H; have hcz26_0 := zc0 BK251; have hcz26_1 := zc1 BK251; have hfz26_0 := kF BK251.out 0; have hfz26_1 := kF BK251.out 1
             go_wp2_with (first | ((with_reducible refine gC (f := 104) rfl ?_); refine zJ (some 26) Try.func104 #[.agg #[.slice A0_0 l0_0.length c0_0, .slice A0_1 l0_1.length c0_1], .int .i64 x11_1] ?_; (with_reducible refine (spec_l7Dart.calls k1 _ _ l0_0 _ _ l0_1 x11_1 t258 _ ?side1 ?side2 ?side3 ?side4 A12.out).mono ?_); (case side1 => exact zC HR0_0 HB); (case side2 => exact HC0_0.out); (case side3 => exact zC HR0_1 HB); (case side4 => exact HC0_1.out); rintro e w27 ⟨rfl, hb⟩; refine ⟨_, rfl, ?_⟩; replace HO_9 := zR HO_9 hb; replace HO_10 := zS HO_10 hb; replace BK251 := zK BK251 hb; replace HB := zB HB hb; (try clear hb); have p259 : 0 ≤ (x11_1 : Int) := zd; have q259 : x11_1 < (l1.length : Int) := zd; obtain ⟨ad259, A259_0, c259_0, e259, hx259_0, hl259_0, hi259_0⟩ := at_L1 HR1.out x11_1 p259 q259; cases e259; try replace hx259_0 := (HB.out.cell (wL w _ hx259_0)).trans hx259_0; have HR259_0 := A0_ hi259_0; have HC259_0 := A0_ hl259_0; clear hi259_0 hl259_0; replace p259 := eq_true p259; replace q259 := eq_true q259; obtain ⟨Ao28, co28, eo28⟩ := rS HO_9.out; subst eo28; have p260 : 0 ≤ (t258 : Int) := zd; have q260 : t258 < (t252.length : Int) := zd; obtain ⟨ad260, e260, hx260_0⟩ := tI (rR HO_9.out).2.2 t258 p260 q260; cases e260; replace p260 := eq_true p260; replace q260 := eq_true q260) | ((with_reducible refine gC (f := 85) rfl ?_); refine zJ (some 38) Try.func85 #[.slice A3 l3.length c3] ?_; (with_reducible refine (spec_l1Back.calls k1 _ _ l3 t261 _ ?side1 ?side2 A17.out).mono ?_); (case side1 => exact zC HR3 HB); (case side2 => exact HC3.out); rintro e w29 ⟨v262, rfl, ho0, hb⟩; refine ⟨_, rfl, ?_⟩; replace HO_10 := A0_ (Kd.S_elder' (zS_ HO_10) (Kd.R_base ho0) hb); have HO263 := A0_ (rL (Kd.R_new' ho0 (rX (zR_ HO_9))) (bZ (zB_ HB))); replace HO_9 := A0_ (Kd.R_elder' (zR_ HO_9) (Kd.R_base ho0) hb); replace BK251 := zK BK251 hb; replace HB := zB HB hb; (try clear hb); (try clear ho0); obtain ⟨Ao30, co30, eo30⟩ := rS HO263.out; subst eo30) | ((with_reducible refine gC (f := 67) rfl ?_); refine zJ (some 40) Try.func67 #[.slice Ao30 t261.length co30, .slice A259_0 (rd_L1 l1 x11_1).length c259_0] ?_; (with_reducible refine (spec_l1Mul.calls k1 _ _ t261 _ _ (rd_L1 l1 x11_1) t264 _ ?side1 ?side2 ?side3 ?side4 A18.out).mono ?_); (case side1 => exact zD HO263); (case side2 => exact (rR HO263.out).2.1); (case side3 => exact zC HR259_0 HB); (case side4 => exact HC259_0.out); rintro e w31 ⟨v265, rfl, ho0, hb⟩; refine ⟨_, rfl, ?_⟩; replace HO_10 := A0_ (Kd.S_elder' (zS_ HO_10) (Kd.R_base ho0) hb); have HO266 := A0_ (rL (Kd.R_new' (Kd.R_new' ho0 (rX (zR_ HO_9))) (rX (zR_ HO263))) (bZ (zB_ HB))); replace HO_9 := A0_ (Kd.R_elder' (zR_ HO_9) (Kd.R_base ho0) hb); replace HO263 := A0_ (Kd.R_elder' (zR_ HO263) (Kd.R_base ho0) hb); replace BK251 := zK BK251 hb; replace HB := zB HB hb; (try clear hb); (try clear ho0); have hcz32_0 := zc0 BK251; have hcz32_1 := zc1 BK251; have hfz32_0 := kF BK251.out 0; have hfz32_1 := kF BK251.out 1; have p267 : 0 ≤ (t258 : Int) := zd; have q267 : t258 < (l0_1.length : Int) := zd; obtain ⟨ad267, e267, hx267_0⟩ := tI HR0_1.out t258 p267 q267; cases e267; try replace hx267_0 := (HB.out.cell (wL w _ hx267_0)).trans hx267_0; replace p267 := eq_true p267; replace q267 := eq_true q267; have p268 : 0 ≤ ((rd l0_1 t258) : Int) := zd; have q268 : (rd l0_1 t258) < (t252.length : Int) := zd; obtain ⟨ad268, e268, hx268_0⟩ := tI (rR HO_9.out).2.2 (rd l0_1 t258) p268 q268; obtain rfl : ad260 = ad268 := (by injection e268); replace p268 := eq_true p268; replace q268 := eq_true q268; obtain ⟨Ao33, co33, eo33⟩ := rS HO266.out; subst eo33) | ((with_reducible refine gC (f := 67) rfl ?_); refine zJ (some 53) Try.func67 #[.slice Ao33 t264.length co33, .slice A3 l3.length c3] ?_; (with_reducible refine (spec_l1Mul.calls k1 _ _ t264 _ _ l3 t269 _ ?side1 ?side2 ?side3 ?side4 A23.out).mono ?_); (case side1 => exact zD HO266); (case side2 => exact (rR HO266.out).2.1); (case side3 => exact zC HR3 HB); (case side4 => exact HC3.out); rintro e w34 ⟨v270, rfl, ho0, hb⟩; refine ⟨_, rfl, ?_⟩; replace HO_10 := A0_ (Kd.S_elder' (zS_ HO_10) (Kd.R_base ho0) hb); have HO271 := A0_ (rL (Kd.R_new' (Kd.R_new' (Kd.R_new' ho0 (rX (zR_ HO_9))) (rX (zR_ HO263))) (rX (zR_ HO266))) (bZ (zB_ HB))); replace HO_9 := A0_ (Kd.R_elder' (zR_ HO_9) (Kd.R_base ho0) hb); replace HO263 := A0_ (Kd.R_elder' (zR_ HO263) (Kd.R_base ho0) hb); replace HO266 := A0_ (Kd.R_elder' (zR_ HO266) (Kd.R_base ho0) hb); replace BK251 := zK BK251 hb; replace HB := zB HB hb; (try clear hb); (try clear ho0); obtain ⟨Ao35, co35, eo35⟩ := rS HO271.out; subst eo35) | ((with_reducible refine gC (f := 88) rfl ?_); refine zJ (some 56) Try.func88 #[.slice Ao35 t269.length co35] ?_; (with_reducible refine (spec_l2Copy.calls _ _ t269 t272 _ ?side1 ?side2 A24.out).mono ?_); (case side1 => exact zD HO271); (case side2 => exact (rR HO271.out).2.1); rintro e w36 ⟨v273, rfl, ho0, hb⟩; refine ⟨_, rfl, ?_⟩; replace HO_10 := A0_ (Kd.S_elder' (zS_ HO_10) (Kd.R_base ho0) hb); have HO274 := A0_ (rL (Kd.R_new' (Kd.R_new' (Kd.R_new' (Kd.R_new' ho0 (rX (zR_ HO_9))) (rX (zR_ HO263))) (rX (zR_ HO266))) (rX (zR_ HO271))) (bZ (zB_ HB))); replace HO_9 := A0_ (Kd.R_elder' (zR_ HO_9) (Kd.R_base ho0) hb); replace HO263 := A0_ (Kd.R_elder' (zR_ HO263) (Kd.R_base ho0) hb); replace HO266 := A0_ (Kd.R_elder' (zR_ HO266) (Kd.R_base ho0) hb); replace HO271 := A0_ (Kd.R_elder' (zR_ HO271) (Kd.R_base ho0) hb); replace BK251 := zK BK251 hb; replace HB := zB HB hb; (try clear hb); (try clear ho0); obtain ⟨Ao38, co38, eo38⟩ := rS HO274.out; subst eo38) | ((with_reducible refine gB (b := .append) (xs := #[.tmp 54, .tmp 57]) rfl ?_); at_builtin; refine Kd.S_append (Kd.slice 3 (Kd.int .i64)) (w0 := w) w.heap.size rfl (.tmp 54) (.tmp 57) 25 22 (.slice none 0 0) 24 rfl Try.underlying25 info22 rfl (by decide) (by omega) u10 x10_1 t272 [.slice Ao38 t272.length co38] (fun k_ => some k_ ≠ (.slice (some ad260) t252.length co28 : Value).ownBlock ∧ some k_ ≠ (.slice Ao30 t261.length co30 : Value).ownBlock ∧ some k_ ≠ (.slice Ao33 t264.length co33 : Value).ownBlock ∧ some k_ ≠ (.slice Ao35 t269.length co35 : Value).ownBlock) (fun k_ => some k_ = (.slice Ao38 t272.length co38 : Value).ownBlock) rfl rfl ?aP (fun k_ hk_ => ((rM (ok' := fun k_ => ((fun k_ => some k_ ≠ (.slice (some ad260) t252.length co28 : Value).ownBlock ∧ some k_ ≠ (.slice Ao30 t261.length co30 : Value).ownBlock ∧ some k_ ≠ (.slice Ao33 t264.length co33 : Value).ownBlock ∧ some k_ ≠ (.slice Ao35 t269.length co35 : Value).ownBlock)) k_ ∧ some k_ ≠ (u10 : Value).ownBlock) (Kd.R_apart' (HO274.out) (Kd.S_typed HO_10.out) (by decide)) (fun k_ hk => ⟨⟨hk.1.1.1.1.2, ⟨hk.1.1.1.2, ⟨hk.1.1.2, hk.1.2⟩⟩⟩, hk.2⟩))).1 k_ hk_.symm) ?aF ?aO ?aB ?aS ?aL ?_; (case aP => exact Kd.M_row (rM (Kd.R_tight rfl (rM (ok' := fun k_ => ((fun k_ => some k_ ≠ (.slice (some ad260) t252.length co28 : Value).ownBlock ∧ some k_ ≠ (.slice Ao30 t261.length co30 : Value).ownBlock ∧ some k_ ≠ (.slice Ao33 t264.length co33 : Value).ownBlock ∧ some k_ ≠ (.slice Ao35 t269.length co35 : Value).ownBlock)) k_ ∧ some k_ ≠ (u10 : Value).ownBlock) (Kd.R_apart' (HO274.out) (Kd.S_typed HO_10.out) (by decide)) (fun k_ hk => ⟨⟨hk.1.1.1.1.2, ⟨hk.1.1.1.2, ⟨hk.1.1.2, hk.1.2⟩⟩⟩, hk.2⟩))) (fun _ h_ => h_))); (case aB => exact (zB_ HB)); (case aF => exact (fun k_ hk => ⟨Kd.fresh' (rX (zR_ HO_9)) k_ hk, Kd.fresh' (rX (zR_ HO263)) k_ hk, Kd.fresh' (rX (zR_ HO266)) k_ hk, Kd.fresh' (rX (zR_ HO271)) k_ hk⟩)); (case aO => exact (zmS HO_10 (fun k_ hk => ⟨⟨hk.1.1.1.1, ⟨hk.1.1.1.2, ⟨hk.1.1.2, hk.1.2⟩⟩⟩, fun e_ => hk.2 e_⟩))); (case aS => exact (bZ (zB_ HB))); (case aL => have := LMc25.out; omega); intro v276 w37 ho hb hg hat; rw [← Ny275.out] at ho; replace HO_9 := A0_ (Kd.R_over' (zR_ HO_9) (Kd.S_typed (zS_ HO_10)) (by decide) hg); replace BK251 := A0_ (blk_grown (g := gb251) (o := .cells #[.slice A0_0 l0_0.length c0_0, .slice (some ad267) l0_1.length c0_1] 29 (0, 0)) (zK_ BK251) hg (Kd.S_ne HO_10.out BK251.out (by decide))); replace HO263 := A0_ (Kd.R_over' (zR_ HO263) (Kd.S_typed (zS_ HO_10)) (by decide) hg); replace HO266 := A0_ (Kd.R_over' (zR_ HO266) (Kd.S_typed (zS_ HO_10)) (by decide) hg); replace HO271 := A0_ (Kd.R_over' (zR_ HO271) (Kd.S_typed (zS_ HO_10)) (by decide) hg); replace HB := A0_ (hb); have HO277 := A0_ (ho); clear HO_10 HO274 ho hb hg hat))
             go_roundg k1
             case measure => have := HK1.out; omega
             case rel => exact ⟨(y275), (wrap64 (x11_1 + 1)), zt, H', ⟨by have := HK1.out; omega⟩, ⟨zmR HO_9 (fun _ hk => trivial)⟩, ⟨zmS HO277 (fun _ hk => hk.1)⟩, ⟨zK_ BK251⟩, ⟨zB_ HB⟩⟩
            rw [if_neg c25] at H
            exact absurd H (by simp)
           rw [if_neg c22] at H
           have c22b0 : ((rd t252 (rd l0_1 t258)) == a2) = false := beq_eq_false_iff_ne.mpr c22
           have c22b1 : ((rd t252 (rd l0_1 t258)) != a2) = true := bne_iff_ne.mpr c22
           obtain ⟨t278, A39, H⟩ := zbind H
           by_cases c40 : x10_1.length < 5864062014805
           ·rw [if_pos c40] at H
            have LMc40 := A0_ c40; clear c40
            obtain ⟨y281, hy281⟩ : ∃ y_ : List (List Int), y_ = (x10_1 ++ [t278]) := ⟨_, rfl⟩
            replace H : (spec_l9Conj.l0 k1 l1 a2 l3 t252 y281 (wrap64 (x11_1 + 1)) l0_0 l0_1) = some r := zH hy281 H
            have Ny281 := A0_ hy281; clear hy281; have H' := A0_ H; clear H; have hcz41_0 := zc0 BK251; have hcz41_1 := zc1 BK251; have hfz41_0 := kF BK251.out 0; have hfz41_1 := kF BK251.out 1
            go_wp2_with (first | ((with_reducible refine gC (f := 104) rfl ?_); refine zJ (some 26) Try.func104 #[.agg #[.slice A0_0 l0_0.length c0_0, .slice A0_1 l0_1.length c0_1], .int .i64 x11_1] ?_; (with_reducible refine (spec_l7Dart.calls k1 _ _ l0_0 _ _ l0_1 x11_1 t258 _ ?side1 ?side2 ?side3 ?side4 A12.out).mono ?_); (case side1 => exact zC HR0_0 HB); (case side2 => exact HC0_0.out); (case side3 => exact zC HR0_1 HB); (case side4 => exact HC0_1.out); rintro e w42 ⟨rfl, hb⟩; refine ⟨_, rfl, ?_⟩; replace HO_9 := zR HO_9 hb; replace HO_10 := zS HO_10 hb; replace BK251 := zK BK251 hb; replace HB := zB HB hb; (try clear hb); have p259 : 0 ≤ (x11_1 : Int) := zd; have q259 : x11_1 < (l1.length : Int) := zd; obtain ⟨ad259, A259_0, c259_0, e259, hx259_0, hl259_0, hi259_0⟩ := at_L1 HR1.out x11_1 p259 q259; cases e259; try replace hx259_0 := (HB.out.cell (wL w _ hx259_0)).trans hx259_0; have HR259_0 := A0_ hi259_0; have HC259_0 := A0_ hl259_0; clear hi259_0 hl259_0; replace p259 := eq_true p259; replace q259 := eq_true q259; obtain ⟨Ao43, co43, eo43⟩ := rS HO_9.out; subst eo43; have p260 : 0 ≤ (t258 : Int) := zd; have q260 : t258 < (t252.length : Int) := zd; obtain ⟨ad260, e260, hx260_0⟩ := tI (rR HO_9.out).2.2 t258 p260 q260; cases e260; replace p260 := eq_true p260; replace q260 := eq_true q260) | ((with_reducible refine gC (f := 85) rfl ?_); refine zJ (some 38) Try.func85 #[.slice A3 l3.length c3] ?_; (with_reducible refine (spec_l1Back.calls k1 _ _ l3 t261 _ ?side1 ?side2 A17.out).mono ?_); (case side1 => exact zC HR3 HB); (case side2 => exact HC3.out); rintro e w44 ⟨v262, rfl, ho0, hb⟩; refine ⟨_, rfl, ?_⟩; replace HO_10 := A0_ (Kd.S_elder' (zS_ HO_10) (Kd.R_base ho0) hb); have HO263 := A0_ (rL (Kd.R_new' ho0 (rX (zR_ HO_9))) (bZ (zB_ HB))); replace HO_9 := A0_ (Kd.R_elder' (zR_ HO_9) (Kd.R_base ho0) hb); replace BK251 := zK BK251 hb; replace HB := zB HB hb; (try clear hb); (try clear ho0); obtain ⟨Ao45, co45, eo45⟩ := rS HO263.out; subst eo45) | ((with_reducible refine gC (f := 67) rfl ?_); refine zJ (some 40) Try.func67 #[.slice Ao45 t261.length co45, .slice A259_0 (rd_L1 l1 x11_1).length c259_0] ?_; (with_reducible refine (spec_l1Mul.calls k1 _ _ t261 _ _ (rd_L1 l1 x11_1) t264 _ ?side1 ?side2 ?side3 ?side4 A18.out).mono ?_); (case side1 => exact zD HO263); (case side2 => exact (rR HO263.out).2.1); (case side3 => exact zC HR259_0 HB); (case side4 => exact HC259_0.out); rintro e w46 ⟨v265, rfl, ho0, hb⟩; refine ⟨_, rfl, ?_⟩; replace HO_10 := A0_ (Kd.S_elder' (zS_ HO_10) (Kd.R_base ho0) hb); have HO266 := A0_ (rL (Kd.R_new' (Kd.R_new' ho0 (rX (zR_ HO_9))) (rX (zR_ HO263))) (bZ (zB_ HB))); replace HO_9 := A0_ (Kd.R_elder' (zR_ HO_9) (Kd.R_base ho0) hb); replace HO263 := A0_ (Kd.R_elder' (zR_ HO263) (Kd.R_base ho0) hb); replace BK251 := zK BK251 hb; replace HB := zB HB hb; (try clear hb); (try clear ho0); have hcz47_0 := zc0 BK251; have hcz47_1 := zc1 BK251; have hfz47_0 := kF BK251.out 0; have hfz47_1 := kF BK251.out 1; have p267 : 0 ≤ (t258 : Int) := zd; have q267 : t258 < (l0_1.length : Int) := zd; obtain ⟨ad267, e267, hx267_0⟩ := tI HR0_1.out t258 p267 q267; cases e267; try replace hx267_0 := (HB.out.cell (wL w _ hx267_0)).trans hx267_0; replace p267 := eq_true p267; replace q267 := eq_true q267; have p268 : 0 ≤ ((rd l0_1 t258) : Int) := zd; have q268 : (rd l0_1 t258) < (t252.length : Int) := zd; obtain ⟨ad268, e268, hx268_0⟩ := tI (rR HO_9.out).2.2 (rd l0_1 t258) p268 q268; obtain rfl : ad260 = ad268 := (by injection e268); replace p268 := eq_true p268; replace q268 := eq_true q268; obtain ⟨Ao48, co48, eo48⟩ := rS HO266.out; subst eo48) | ((with_reducible refine gC (f := 88) rfl ?_); refine zJ (some 56) Try.func88 #[.slice Ao48 t264.length co48] ?_; (with_reducible refine (spec_l2Copy.calls _ _ t264 t278 _ ?side1 ?side2 A39.out).mono ?_); (case side1 => exact zD HO266); (case side2 => exact (rR HO266.out).2.1); rintro e w49 ⟨v279, rfl, ho0, hb⟩; refine ⟨_, rfl, ?_⟩; replace HO_10 := A0_ (Kd.S_elder' (zS_ HO_10) (Kd.R_base ho0) hb); have HO280 := A0_ (rL (Kd.R_new' (Kd.R_new' (Kd.R_new' ho0 (rX (zR_ HO_9))) (rX (zR_ HO263))) (rX (zR_ HO266))) (bZ (zB_ HB))); replace HO_9 := A0_ (Kd.R_elder' (zR_ HO_9) (Kd.R_base ho0) hb); replace HO263 := A0_ (Kd.R_elder' (zR_ HO263) (Kd.R_base ho0) hb); replace HO266 := A0_ (Kd.R_elder' (zR_ HO266) (Kd.R_base ho0) hb); replace BK251 := zK BK251 hb; replace HB := zB HB hb; (try clear hb); (try clear ho0); obtain ⟨Ao51, co51, eo51⟩ := rS HO280.out; subst eo51) | ((with_reducible refine gB (b := .append) (xs := #[.tmp 54, .tmp 57]) rfl ?_); at_builtin; refine Kd.S_append (Kd.slice 3 (Kd.int .i64)) (w0 := w) w.heap.size rfl (.tmp 54) (.tmp 57) 25 22 (.slice none 0 0) 24 rfl Try.underlying25 info22 rfl (by decide) (by omega) u10 x10_1 t278 [.slice Ao51 t278.length co51] (fun k_ => some k_ ≠ (.slice (some ad260) t252.length co43 : Value).ownBlock ∧ some k_ ≠ (.slice Ao45 t261.length co45 : Value).ownBlock ∧ some k_ ≠ (.slice Ao48 t264.length co48 : Value).ownBlock) (fun k_ => some k_ = (.slice Ao51 t278.length co51 : Value).ownBlock) rfl rfl ?aP (fun k_ hk_ => ((rM (ok' := fun k_ => ((fun k_ => some k_ ≠ (.slice (some ad260) t252.length co43 : Value).ownBlock ∧ some k_ ≠ (.slice Ao45 t261.length co45 : Value).ownBlock ∧ some k_ ≠ (.slice Ao48 t264.length co48 : Value).ownBlock)) k_ ∧ some k_ ≠ (u10 : Value).ownBlock) (Kd.R_apart' (HO280.out) (Kd.S_typed HO_10.out) (by decide)) (fun k_ hk => ⟨⟨hk.1.1.1.2, ⟨hk.1.1.2, hk.1.2⟩⟩, hk.2⟩))).1 k_ hk_.symm) ?aF ?aO ?aB ?aS ?aL ?_; (case aP => exact Kd.M_row (rM (Kd.R_tight rfl (rM (ok' := fun k_ => ((fun k_ => some k_ ≠ (.slice (some ad260) t252.length co43 : Value).ownBlock ∧ some k_ ≠ (.slice Ao45 t261.length co45 : Value).ownBlock ∧ some k_ ≠ (.slice Ao48 t264.length co48 : Value).ownBlock)) k_ ∧ some k_ ≠ (u10 : Value).ownBlock) (Kd.R_apart' (HO280.out) (Kd.S_typed HO_10.out) (by decide)) (fun k_ hk => ⟨⟨hk.1.1.1.2, ⟨hk.1.1.2, hk.1.2⟩⟩, hk.2⟩))) (fun _ h_ => h_))); (case aB => exact (zB_ HB)); (case aF => exact (fun k_ hk => ⟨Kd.fresh' (rX (zR_ HO_9)) k_ hk, Kd.fresh' (rX (zR_ HO263)) k_ hk, Kd.fresh' (rX (zR_ HO266)) k_ hk⟩)); (case aO => exact (zmS HO_10 (fun k_ hk => ⟨⟨hk.1.1.1, ⟨hk.1.1.2, hk.1.2⟩⟩, fun e_ => hk.2 e_⟩))); (case aS => exact (bZ (zB_ HB))); (case aL => have := LMc40.out; omega); intro v282 w50 ho hb hg hat; rw [← Ny281.out] at ho; replace HO_9 := A0_ (Kd.R_over' (zR_ HO_9) (Kd.S_typed (zS_ HO_10)) (by decide) hg); replace BK251 := A0_ (blk_grown (g := gb251) (o := .cells #[.slice A0_0 l0_0.length c0_0, .slice (some ad267) l0_1.length c0_1] 29 (0, 0)) (zK_ BK251) hg (Kd.S_ne HO_10.out BK251.out (by decide))); replace HO263 := A0_ (Kd.R_over' (zR_ HO263) (Kd.S_typed (zS_ HO_10)) (by decide) hg); replace HO266 := A0_ (Kd.R_over' (zR_ HO266) (Kd.S_typed (zS_ HO_10)) (by decide) hg); replace HB := A0_ (hb); have HO283 := A0_ (ho); clear HO_10 HO280 ho hb hg hat))
            go_roundg k1
            case measure => have := HK1.out; omega
            case rel => exact ⟨(y281), (wrap64 (x11_1 + 1)), zt, H', ⟨by have := HK1.out; omega⟩, ⟨zmR HO_9 (fun _ hk => trivial)⟩, ⟨zmS HO283 (fun _ hk => hk.1)⟩, ⟨zK_ BK251⟩, ⟨zB_ HB⟩⟩
           rw [if_neg c40] at H
           exact absurd H (by simp)
          rw [if_neg c21] at H
          exact absurd H (by simp)
         rw [if_neg c20] at H
         exact absurd H (by simp)
        rw [if_neg c19] at H
        exact absurd H (by simp)
       rw [if_neg c16] at H
       have c16b0 : ((rd t252 t258) == a2) = false := beq_eq_false_iff_ne.mpr c16
       have c16b1 : ((rd t252 t258) != a2) = true := bne_iff_ne.mpr c16
       by_cases c52 : t258 < (l0_1.length : Int)
       ·rw [if_pos c52] at H
        have c52b0 := dT c52; clear c52
        by_cases c53 : 0 ≤ (rd l0_1 t258)
        ·rw [if_pos c53] at H
         have c53b0 := dT c53; clear c53
         by_cases c54 : (rd l0_1 t258) < (t252.length : Int)
         ·rw [if_pos c54] at H
          have c54b0 := dT c54; clear c54
          by_cases c55 : (rd t252 (rd l0_1 t258)) = a2
          ·rw [if_pos c55] at H
           have c55b0 : ((rd t252 (rd l0_1 t258)) == a2) = true := beq_iff_eq.mpr c55
           have c55b1 : ((rd t252 (rd l0_1 t258)) != a2) = false := bne_eq_false_iff_eq.mpr c55
           clear c55; obtain ⟨t286, A56, H⟩ := zbind H; obtain ⟨t289, A57, H⟩ := zbind H
           by_cases c58 : x10_1.length < 5864062014805
           ·rw [if_pos c58] at H
            have LMc58 := A0_ c58; clear c58
            obtain ⟨y292, hy292⟩ : ∃ y_ : List (List Int), y_ = (x10_1 ++ [t289]) := ⟨_, rfl⟩
            replace H : (spec_l9Conj.l0 k1 l1 a2 l3 t252 y292 (wrap64 (x11_1 + 1)) l0_0 l0_1) = some r := zH hy292 H
            have Ny292 := A0_ hy292; clear hy292; have H' := A0_ H; clear H; have hcz59_0 := zc0 BK251; have hcz59_1 := zc1 BK251; have hfz59_0 := kF BK251.out 0; have hfz59_1 := kF BK251.out 1
            go_wp2_with (first | ((with_reducible refine gC (f := 104) rfl ?_); refine zJ (some 26) Try.func104 #[.agg #[.slice A0_0 l0_0.length c0_0, .slice A0_1 l0_1.length c0_1], .int .i64 x11_1] ?_; (with_reducible refine (spec_l7Dart.calls k1 _ _ l0_0 _ _ l0_1 x11_1 t258 _ ?side1 ?side2 ?side3 ?side4 A12.out).mono ?_); (case side1 => exact zC HR0_0 HB); (case side2 => exact HC0_0.out); (case side3 => exact zC HR0_1 HB); (case side4 => exact HC0_1.out); rintro e w60 ⟨rfl, hb⟩; refine ⟨_, rfl, ?_⟩; replace HO_9 := zR HO_9 hb; replace HO_10 := zS HO_10 hb; replace BK251 := zK BK251 hb; replace HB := zB HB hb; (try clear hb); have p259 : 0 ≤ (x11_1 : Int) := zd; have q259 : x11_1 < (l1.length : Int) := zd; obtain ⟨ad259, A259_0, c259_0, e259, hx259_0, hl259_0, hi259_0⟩ := at_L1 HR1.out x11_1 p259 q259; cases e259; try replace hx259_0 := (HB.out.cell (wL w _ hx259_0)).trans hx259_0; have HR259_0 := A0_ hi259_0; have HC259_0 := A0_ hl259_0; clear hi259_0 hl259_0; replace p259 := eq_true p259; replace q259 := eq_true q259; obtain ⟨Ao61, co61, eo61⟩ := rS HO_9.out; subst eo61; have p260 : 0 ≤ (t258 : Int) := zd; have q260 : t258 < (t252.length : Int) := zd; obtain ⟨ad260, e260, hx260_0⟩ := tI (rR HO_9.out).2.2 t258 p260 q260; cases e260; replace p260 := eq_true p260; replace q260 := eq_true q260; have hcz62_0 := zc0 BK251; have hcz62_1 := zc1 BK251; have hfz62_0 := kF BK251.out 0; have hfz62_1 := kF BK251.out 1; have p284 : 0 ≤ (t258 : Int) := zd; have q284 : t258 < (l0_1.length : Int) := zd; obtain ⟨ad284, e284, hx284_0⟩ := tI HR0_1.out t258 p284 q284; cases e284; try replace hx284_0 := (HB.out.cell (wL w _ hx284_0)).trans hx284_0; replace p284 := eq_true p284; replace q284 := eq_true q284; have p285 : 0 ≤ ((rd l0_1 t258) : Int) := zd; have q285 : (rd l0_1 t258) < (t252.length : Int) := zd; obtain ⟨ad285, e285, hx285_0⟩ := tI (rR HO_9.out).2.2 (rd l0_1 t258) p285 q285; obtain rfl : ad260 = ad285 := (by injection e285); replace p285 := eq_true p285; replace q285 := eq_true q285) | ((with_reducible refine gC (f := 67) rfl ?_); refine zJ (some 53) Try.func67 #[.slice A259_0 (rd_L1 l1 x11_1).length c259_0, .slice A3 l3.length c3] ?_; (with_reducible refine (spec_l1Mul.calls k1 _ _ (rd_L1 l1 x11_1) _ _ l3 t286 _ ?side1 ?side2 ?side3 ?side4 A56.out).mono ?_); (case side1 => exact zC HR259_0 HB); (case side2 => exact HC259_0.out); (case side3 => exact zC HR3 HB); (case side4 => exact HC3.out); rintro e w63 ⟨v287, rfl, ho0, hb⟩; refine ⟨_, rfl, ?_⟩; replace HO_10 := A0_ (Kd.S_elder' (zS_ HO_10) (Kd.R_base ho0) hb); have HO288 := A0_ (rL (Kd.R_new' ho0 (rX (zR_ HO_9))) (bZ (zB_ HB))); replace HO_9 := A0_ (Kd.R_elder' (zR_ HO_9) (Kd.R_base ho0) hb); replace BK251 := zK BK251 hb; replace HB := zB HB hb; (try clear hb); (try clear ho0); obtain ⟨Ao64, co64, eo64⟩ := rS HO288.out; subst eo64) | ((with_reducible refine gC (f := 88) rfl ?_); refine zJ (some 56) Try.func88 #[.slice Ao64 t286.length co64] ?_; (with_reducible refine (spec_l2Copy.calls _ _ t286 t289 _ ?side1 ?side2 A57.out).mono ?_); (case side1 => exact zD HO288); (case side2 => exact (rR HO288.out).2.1); rintro e w65 ⟨v290, rfl, ho0, hb⟩; refine ⟨_, rfl, ?_⟩; replace HO_10 := A0_ (Kd.S_elder' (zS_ HO_10) (Kd.R_base ho0) hb); have HO291 := A0_ (rL (Kd.R_new' (Kd.R_new' ho0 (rX (zR_ HO_9))) (rX (zR_ HO288))) (bZ (zB_ HB))); replace HO_9 := A0_ (Kd.R_elder' (zR_ HO_9) (Kd.R_base ho0) hb); replace HO288 := A0_ (Kd.R_elder' (zR_ HO288) (Kd.R_base ho0) hb); replace BK251 := zK BK251 hb; replace HB := zB HB hb; (try clear hb); (try clear ho0); obtain ⟨Ao67, co67, eo67⟩ := rS HO291.out; subst eo67) | ((with_reducible refine gB (b := .append) (xs := #[.tmp 54, .tmp 57]) rfl ?_); at_builtin; refine Kd.S_append (Kd.slice 3 (Kd.int .i64)) (w0 := w) w.heap.size rfl (.tmp 54) (.tmp 57) 25 22 (.slice none 0 0) 24 rfl Try.underlying25 info22 rfl (by decide) (by omega) u10 x10_1 t289 [.slice Ao67 t289.length co67] (fun k_ => some k_ ≠ (.slice (some ad260) t252.length co61 : Value).ownBlock ∧ some k_ ≠ (.slice Ao64 t286.length co64 : Value).ownBlock) (fun k_ => some k_ = (.slice Ao67 t289.length co67 : Value).ownBlock) rfl rfl ?aP (fun k_ hk_ => ((rM (ok' := fun k_ => ((fun k_ => some k_ ≠ (.slice (some ad260) t252.length co61 : Value).ownBlock ∧ some k_ ≠ (.slice Ao64 t286.length co64 : Value).ownBlock)) k_ ∧ some k_ ≠ (u10 : Value).ownBlock) (Kd.R_apart' (HO291.out) (Kd.S_typed HO_10.out) (by decide)) (fun k_ hk => ⟨⟨hk.1.1.2, hk.1.2⟩, hk.2⟩))).1 k_ hk_.symm) ?aF ?aO ?aB ?aS ?aL ?_; (case aP => exact Kd.M_row (rM (Kd.R_tight rfl (rM (ok' := fun k_ => ((fun k_ => some k_ ≠ (.slice (some ad260) t252.length co61 : Value).ownBlock ∧ some k_ ≠ (.slice Ao64 t286.length co64 : Value).ownBlock)) k_ ∧ some k_ ≠ (u10 : Value).ownBlock) (Kd.R_apart' (HO291.out) (Kd.S_typed HO_10.out) (by decide)) (fun k_ hk => ⟨⟨hk.1.1.2, hk.1.2⟩, hk.2⟩))) (fun _ h_ => h_))); (case aB => exact (zB_ HB)); (case aF => exact (fun k_ hk => ⟨Kd.fresh' (rX (zR_ HO_9)) k_ hk, Kd.fresh' (rX (zR_ HO288)) k_ hk⟩)); (case aO => exact (zmS HO_10 (fun k_ hk => ⟨⟨hk.1.1, hk.1.2⟩, fun e_ => hk.2 e_⟩))); (case aS => exact (bZ (zB_ HB))); (case aL => have := LMc58.out; omega); intro v293 w66 ho hb hg hat; rw [← Ny292.out] at ho; replace HO_9 := A0_ (Kd.R_over' (zR_ HO_9) (Kd.S_typed (zS_ HO_10)) (by decide) hg); replace BK251 := A0_ (blk_grown (g := gb251) (o := .cells #[.slice A0_0 l0_0.length c0_0, .slice (some ad284) l0_1.length c0_1] 29 (0, 0)) (zK_ BK251) hg (Kd.S_ne HO_10.out BK251.out (by decide))); replace HO288 := A0_ (Kd.R_over' (zR_ HO288) (Kd.S_typed (zS_ HO_10)) (by decide) hg); replace HB := A0_ (hb); have HO294 := A0_ (ho); clear HO_10 HO291 ho hb hg hat))
            go_roundg k1
            case measure => have := HK1.out; omega
            case rel => exact ⟨(y292), (wrap64 (x11_1 + 1)), zt, H', ⟨by have := HK1.out; omega⟩, ⟨zmR HO_9 (fun _ hk => trivial)⟩, ⟨zmS HO294 (fun _ hk => hk.1)⟩, ⟨zK_ BK251⟩, ⟨zB_ HB⟩⟩
           rw [if_neg c58] at H
           exact absurd H (by simp)
          rw [if_neg c55] at H
          have c55b0 : ((rd t252 (rd l0_1 t258)) == a2) = false := beq_eq_false_iff_ne.mpr c55
          have c55b1 : ((rd t252 (rd l0_1 t258)) != a2) = true := bne_iff_ne.mpr c55
          obtain ⟨t295, A68, H⟩ := zbind H
          by_cases c69 : x10_1.length < 5864062014805
          ·rw [if_pos c69] at H
           have LMc69 := A0_ c69; clear c69
           obtain ⟨y298, hy298⟩ : ∃ y_ : List (List Int), y_ = (x10_1 ++ [t295]) := ⟨_, rfl⟩
           replace H : (spec_l9Conj.l0 k1 l1 a2 l3 t252 y298 (wrap64 (x11_1 + 1)) l0_0 l0_1) = some r := zH hy298 H
           have Ny298 := A0_ hy298; clear hy298; have H' := A0_ H; clear H; have hcz70_0 := zc0 BK251; have hcz70_1 := zc1 BK251; have hfz70_0 := kF BK251.out 0; have hfz70_1 := kF BK251.out 1
           go_wp2_with (first | ((with_reducible refine gC (f := 104) rfl ?_); refine zJ (some 26) Try.func104 #[.agg #[.slice A0_0 l0_0.length c0_0, .slice A0_1 l0_1.length c0_1], .int .i64 x11_1] ?_; (with_reducible refine (spec_l7Dart.calls k1 _ _ l0_0 _ _ l0_1 x11_1 t258 _ ?side1 ?side2 ?side3 ?side4 A12.out).mono ?_); (case side1 => exact zC HR0_0 HB); (case side2 => exact HC0_0.out); (case side3 => exact zC HR0_1 HB); (case side4 => exact HC0_1.out); rintro e w71 ⟨rfl, hb⟩; refine ⟨_, rfl, ?_⟩; replace HO_9 := zR HO_9 hb; replace HO_10 := zS HO_10 hb; replace BK251 := zK BK251 hb; replace HB := zB HB hb; (try clear hb); have p259 : 0 ≤ (x11_1 : Int) := zd; have q259 : x11_1 < (l1.length : Int) := zd; obtain ⟨ad259, A259_0, c259_0, e259, hx259_0, hl259_0, hi259_0⟩ := at_L1 HR1.out x11_1 p259 q259; cases e259; try replace hx259_0 := (HB.out.cell (wL w _ hx259_0)).trans hx259_0; have HR259_0 := A0_ hi259_0; have HC259_0 := A0_ hl259_0; clear hi259_0 hl259_0; replace p259 := eq_true p259; replace q259 := eq_true q259; obtain ⟨Ao72, co72, eo72⟩ := rS HO_9.out; subst eo72; have p260 : 0 ≤ (t258 : Int) := zd; have q260 : t258 < (t252.length : Int) := zd; obtain ⟨ad260, e260, hx260_0⟩ := tI (rR HO_9.out).2.2 t258 p260 q260; cases e260; replace p260 := eq_true p260; replace q260 := eq_true q260; have hcz73_0 := zc0 BK251; have hcz73_1 := zc1 BK251; have hfz73_0 := kF BK251.out 0; have hfz73_1 := kF BK251.out 1; have p284 : 0 ≤ (t258 : Int) := zd; have q284 : t258 < (l0_1.length : Int) := zd; obtain ⟨ad284, e284, hx284_0⟩ := tI HR0_1.out t258 p284 q284; cases e284; try replace hx284_0 := (HB.out.cell (wL w _ hx284_0)).trans hx284_0; replace p284 := eq_true p284; replace q284 := eq_true q284; have p285 : 0 ≤ ((rd l0_1 t258) : Int) := zd; have q285 : (rd l0_1 t258) < (t252.length : Int) := zd; obtain ⟨ad285, e285, hx285_0⟩ := tI (rR HO_9.out).2.2 (rd l0_1 t258) p285 q285; obtain rfl : ad260 = ad285 := (by injection e285); replace p285 := eq_true p285; replace q285 := eq_true q285) | ((with_reducible refine gC (f := 88) rfl ?_); refine zJ (some 56) Try.func88 #[.slice A259_0 (rd_L1 l1 x11_1).length c259_0] ?_; (with_reducible refine (spec_l2Copy.calls _ _ (rd_L1 l1 x11_1) t295 _ ?side1 ?side2 A68.out).mono ?_); (case side1 => exact zC HR259_0 HB); (case side2 => exact HC259_0.out); rintro e w74 ⟨v296, rfl, ho0, hb⟩; refine ⟨_, rfl, ?_⟩; replace HO_10 := A0_ (Kd.S_elder' (zS_ HO_10) (Kd.R_base ho0) hb); have HO297 := A0_ (rL (Kd.R_new' ho0 (rX (zR_ HO_9))) (bZ (zB_ HB))); replace HO_9 := A0_ (Kd.R_elder' (zR_ HO_9) (Kd.R_base ho0) hb); replace BK251 := zK BK251 hb; replace HB := zB HB hb; (try clear hb); (try clear ho0); obtain ⟨Ao76, co76, eo76⟩ := rS HO297.out; subst eo76) | ((with_reducible refine gB (b := .append) (xs := #[.tmp 54, .tmp 57]) rfl ?_); at_builtin; refine Kd.S_append (Kd.slice 3 (Kd.int .i64)) (w0 := w) w.heap.size rfl (.tmp 54) (.tmp 57) 25 22 (.slice none 0 0) 24 rfl Try.underlying25 info22 rfl (by decide) (by omega) u10 x10_1 t295 [.slice Ao76 t295.length co76] (fun k_ => some k_ ≠ (.slice (some ad260) t252.length co72 : Value).ownBlock) (fun k_ => some k_ = (.slice Ao76 t295.length co76 : Value).ownBlock) rfl rfl ?aP (fun k_ hk_ => ((rM (ok' := fun k_ => ((fun k_ => some k_ ≠ (.slice (some ad260) t252.length co72 : Value).ownBlock)) k_ ∧ some k_ ≠ (u10 : Value).ownBlock) (Kd.R_apart' (HO297.out) (Kd.S_typed HO_10.out) (by decide)) (fun k_ hk => ⟨hk.1.2, hk.2⟩))).1 k_ hk_.symm) ?aF ?aO ?aB ?aS ?aL ?_; (case aP => exact Kd.M_row (rM (Kd.R_tight rfl (rM (ok' := fun k_ => ((fun k_ => some k_ ≠ (.slice (some ad260) t252.length co72 : Value).ownBlock)) k_ ∧ some k_ ≠ (u10 : Value).ownBlock) (Kd.R_apart' (HO297.out) (Kd.S_typed HO_10.out) (by decide)) (fun k_ hk => ⟨hk.1.2, hk.2⟩))) (fun _ h_ => h_))); (case aB => exact (zB_ HB)); (case aF => exact (fun k_ hk => Kd.fresh' (rX (zR_ HO_9)) k_ hk)); (case aO => exact (zmS HO_10 (fun k_ hk => ⟨hk.1, fun e_ => hk.2 e_⟩))); (case aS => exact (bZ (zB_ HB))); (case aL => have := LMc69.out; omega); intro v299 w75 ho hb hg hat; rw [← Ny298.out] at ho; replace HO_9 := A0_ (Kd.R_over' (zR_ HO_9) (Kd.S_typed (zS_ HO_10)) (by decide) hg); replace BK251 := A0_ (blk_grown (g := gb251) (o := .cells #[.slice A0_0 l0_0.length c0_0, .slice (some ad284) l0_1.length c0_1] 29 (0, 0)) (zK_ BK251) hg (Kd.S_ne HO_10.out BK251.out (by decide))); replace HB := A0_ (hb); have HO300 := A0_ (ho); clear HO_10 HO297 ho hb hg hat))
           go_roundg k1
           case measure => have := HK1.out; omega
           case rel => exact ⟨(y298), (wrap64 (x11_1 + 1)), zt, H', ⟨by have := HK1.out; omega⟩, ⟨zmR HO_9 (fun _ hk => trivial)⟩, ⟨zS_ HO300⟩, ⟨zK_ BK251⟩, ⟨zB_ HB⟩⟩
          rw [if_neg c69] at H
          exact absurd H (by simp)
         rw [if_neg c54] at H
         exact absurd H (by simp)
        rw [if_neg c53] at H
        exact absurd H (by simp)
       rw [if_neg c52] at H
       exact absurd H (by simp)
      rw [if_neg c15] at H
      exact absurd H (by simp)
     rw [if_neg c14] at H
     exact absurd H (by simp)
    rw [if_neg c13] at H
    exact absurd H (by simp)
   rw [if_neg c11] at H; have c11b0 := dF c11; clear c11; obtain rfl := sI H
   go_wp2
   go_ret
   exact ⟨_, by first | rfl | (simp [*] <;> rfl), zmS HO_10 (fun _ hk => trivial), zB_ HB⟩

/-! ### spec_CoverConj: function 47 -/
def spec_CoverConj.j0 : Nat → List (List Int) → Int → List Int → Bool → List Int → List Int → Option ((List (List Int)) × Bool)
  | 0, _, _, _, _, _, _ => none
  | k + 1, x2, x3, x4, x33, x302000, x302001 => if x33 = true then (some ((([] : List (List Int))), false)) else ((spec_l7Vertices.f k x302000).bind fun t308 => (if 0 ≤ x3 then (if x3 < (t308.length : Int) then ((spec_l9Conj.f k x302000 x302001 x2 (rd t308 x3) x4).bind fun t312 => (some (t312, true))) else (none)) else (none)))
def spec_CoverConj.f (k : Nat) (l0_0 : List Int) (l0_1 : List Int) (a1 : Int) (l2 : List (List Int)) (a3 : Int) (l4 : List Int) : Option ((List (List Int)) × Bool) := (spec_VoltageValid.f k l0_0 l0_1 a1 l2).bind fun t302 => (if t302 = true then ((spec_l2Dart.f k l0_0 l0_1 a3).bind fun t303 => (if t303 = true then ((spec_PermValid.f k l4).bind fun t304 => (if t304 = true then (spec_CoverConj.j0 k l2 a3 l4 ((l4.length : Int) != a1) l0_0 l0_1) else (spec_CoverConj.j0 k l2 a3 l4 true l0_0 l0_1))) else (spec_CoverConj.j0 k l2 a3 l4 true l0_0 l0_1))) else (spec_CoverConj.j0 k l2 a3 l4 true l0_0 l0_1))
def spec_CoverConj.T3 : Bool × List (List Nat × List Nat) := (true, [([], []), ([], []), ([], []), ([2], [2]), ([3], [3]), ([], []), ([4, 5], [4, 5]), ([6], [6]), ([], []), ([0, 1, 7, 8, 4], [0, 1, 7, 8]), ([9, 9, 0, 1, 2, 3, 4, 5, 6, 7, 8, 9], [9]), ([10, 0, 1, 2, 3, 4, 5, 6, 7, 8, 9, 10], [])])
def spec_CoverConj.B3 : List Nat := [0, 0, 0, 4, 12, 0, 60, 124, 0, 511, 1023, 2047]
theorem spec_CoverConj.tab3 : rtab .any (opsOf Try.f47 3) = spec_CoverConj.T3 := by kernel_rfl
theorem spec_CoverConj.bits3 : waitsOk spec_CoverConj.T3.2 spec_CoverConj.B3 = true := by kernel_rfl
set_option maxHeartbeats 8000000 in
set_option maxRecDepth 100000 in
theorem spec_CoverConj.calls (k : Nat) (A0_0 : Option Addr) (c0_0 : Nat) (l0_0 : List Int) (A0_1 : Option Addr) (c0_1 : Nat) (l0_1 : List Int) (a1 : Int) (A2 : Option Addr) (c2 : Nat) (l2 : List (List Int)) (a3 : Int) (A4 : Option Addr) (c4 : Nat) (l4 : List Int) (r1 : List (List Int)) (r2 : Bool) (w : World) (hr0_0 : Kd.C (Kd.int .i64) w A0_0 l0_0.length l0_0) (hc0_0 : l0_0.length ≤ c0_0) (hr0_1 : Kd.C (Kd.int .i64) w A0_1 l0_1.length l0_1) (hc0_1 : l0_1.length ≤ c0_1) (hr2 : Kd.C (Kd.slice 3 (Kd.int .i64)) w A2 l2.length l2) (hc2 : l2.length ≤ c2) (hr4 : Kd.C (Kd.int .i64) w A4 l4.length l4) (hc4 : l4.length ≤ c4) (h : spec_CoverConj.f k l0_0 l0_1 a1 l2 a3 l4 = some (r1, r2)) :
    Calls Try.prog 47 #[.agg #[.slice A0_0 l0_0.length c0_0, .slice A0_1 l0_1.length c0_1], .int .i64 a1, .slice A2 l2.length c2, .int .i64 a3, .slice A4 l4.length c4] w fun e w' => ∃ v0_ : Value, e = .returned (.tuple #[v0_, .bool r2]) ∧ Kd.S (Kd.slice 3 (Kd.int .i64)) 22 w' w.heap.size (fun _ => True) v0_ r1 ∧ Below w.heap.size w w' := by
 have hu29 := Try.underlying29; have HR0_0 := A0_ hr0_0; have HC0_0 := A0_ hc0_0; clear hr0_0 hc0_0; have HR0_1 := A0_ hr0_1; have HC0_1 := A0_ hc0_1; clear hr0_1 hc0_1; have HR2 := A0_ hr2; have HC2 := A0_ hc2; clear hr2 hc2; have HR4 := A0_ hr4; have HC4 := A0_ hc4; clear hr4 hc4
 have HB := A0_ (Below.refl w.heap.size w)
 have H : ((spec_VoltageValid.f k l0_0 l0_1 a1 l2).bind fun t302 => (if t302 = true then ((spec_l2Dart.f k l0_0 l0_1 a3).bind fun t303 => (if t303 = true then ((spec_PermValid.f k l4).bind fun t304 => (if t304 = true then (spec_CoverConj.j0 k l2 a3 l4 ((l4.length : Int) != a1) l0_0 l0_1) else (spec_CoverConj.j0 k l2 a3 l4 true l0_0 l0_1))) else (spec_CoverConj.j0 k l2 a3 l4 true l0_0 l0_1))) else (spec_CoverConj.j0 k l2 a3 l4 true l0_0 l0_1))) = some (r1, r2) := h
 clear h; have HC6 := A0_ H; clear H
 go_enter Try.func47, Try.ntmps47
 go_upto_region 1 with (first | ((with_reducible refine gD (N := 5) rfl ?_); refine zX (N := 5) (cs := #[.slice A0_0 l0_0.length c0_0, .slice A0_1 l0_1.length c0_1]) (t := 29) ?_; intro gb301 hg w7 hbox hb; have BK301 := A0_ (hbox); have GW301 := zG hg HB; have GE301 := zG hg HB; replace HB := zB HB hb; clear hb hbox hg))
 (try simp only [Act.put, List.setIfInBounds_toArray, List.set_cons_zero, List.set_cons_succ])
 go_cut [33] (fun v33 wc => ∃ (kq : Nat) (x33_5 : Bool), v33 = .bool x33_5 ∧ Aside0 (spec_CoverConj.j0 kq l2 a3 l4 x33_5 l0_0 l0_1 = some (r1, r2)) ∧ Aside0 (kq ≤ k) ∧ Aside0 (wc.heap[gb301]? = some (.cells #[(.slice A0_0 l0_0.length c0_0), (.slice A0_1 l0_1.length c0_1)] 29 (0, 0))) ∧ Aside0 (Below w.heap.size w wc))
 case first =>
  have H := HC6.out; clear HC6; obtain ⟨t302, A8, H⟩ := zbind H
  by_cases c9 : t302 = true
  ·subst c9
   have H1 : ((spec_l2Dart.f k l0_0 l0_1 a3).bind fun t303 => (if t303 = true then ((spec_PermValid.f k l4).bind fun t304 => (if t304 = true then (spec_CoverConj.j0 k l2 a3 l4 ((l4.length : Int) != a1) l0_0 l0_1) else (spec_CoverConj.j0 k l2 a3 l4 true l0_0 l0_1))) else (spec_CoverConj.j0 k l2 a3 l4 true l0_0 l0_1))) = some (r1, r2) := by rw [if_pos rfl] at H; exact H
   clear H; have H := H1; clear H1; obtain ⟨t303, A10, H⟩ := zbind H
   by_cases c11 : t303 = true
   ·subst c11
    have H1 : ((spec_PermValid.f k l4).bind fun t304 => (if t304 = true then (spec_CoverConj.j0 k l2 a3 l4 ((l4.length : Int) != a1) l0_0 l0_1) else (spec_CoverConj.j0 k l2 a3 l4 true l0_0 l0_1))) = some (r1, r2) := by rw [if_pos rfl] at H; exact H
    clear H; have H := H1; clear H1; obtain ⟨t304, A12, H⟩ := zbind H
    by_cases c13 : t304 = true
    ·subst c13
     have H1 : (spec_CoverConj.j0 k l2 a3 l4 ((l4.length : Int) != a1) l0_0 l0_1) = some (r1, r2) := by rw [if_pos rfl] at H; exact H
     clear H; have H := H1; clear H1; have H' := A0_ H; clear H; have hcz14_0 := zc0 BK301; have hcz14_1 := zc1 BK301; have hfz14_0 := kF BK301.out 0; have hfz14_1 := kF BK301.out 1
     go_wp2_with (first | ((with_reducible refine gC (f := 17) rfl ?_); refine zJ (some 15) Try.func17 #[.agg #[.slice A0_0 l0_0.length c0_0, .slice A0_1 l0_1.length c0_1], .int .i64 a1, .slice A2 l2.length c2] ?_; (with_reducible refine (spec_VoltageValid.calls k _ _ l0_0 _ _ l0_1 a1 _ _ l2 true _ ?side1 ?side2 ?side3 ?side4 ?side5 ?side6 A8.out).mono ?_); (case side1 => exact zC HR0_0 HB); (case side2 => exact HC0_0.out); (case side3 => exact zC HR0_1 HB); (case side4 => exact HC0_1.out); (case side5 => exact zC HR2 HB); (case side6 => exact HC2.out); rintro e w15 ⟨rfl, hb⟩; refine ⟨_, rfl, ?_⟩; replace BK301 := zK BK301 hb; replace HB := zB HB hb; (try clear hb); have hcz16_0 := zc0 BK301; have hcz16_1 := zc1 BK301; have hfz16_0 := kF BK301.out 0; have hfz16_1 := kF BK301.out 1) | (go_at_call 77; (with_reducible refine (spec_l2Dart.calls k _ _ l0_0 _ _ l0_1 a3 true _ ?side1 ?side2 ?side3 ?side4 A10.out).mono ?_); (case side1 => exact zC HR0_0 HB); (case side2 => exact HC0_0.out); (case side3 => exact zC HR0_1 HB); (case side4 => exact HC0_1.out); rintro e w17 ⟨rfl, hb⟩; replace BK301 := zK BK301 hb; replace HB := zB HB hb; (try clear hb)) | (go_at_call 58; (with_reducible refine (spec_PermValid.calls k _ _ l4 true _ ?side1 ?side2 A12.out).mono ?_); (case side1 => exact zC HR4 HB); (case side2 => exact HC4.out); rintro e w' ⟨rfl, ⟨nd, rfl⟩⟩))
     go_meet
     case rel => exact ⟨_, (((l4.length : Int) != a1)), zt, H', zo, ⟨zK_ BK301⟩, ⟨zB_ HB⟩⟩
    replace c13 := Bool.eq_false_iff.mpr c13; subst c13
    have H1 : (spec_CoverConj.j0 k l2 a3 l4 true l0_0 l0_1) = some (r1, r2) := by rw [if_neg (show ¬ (false = true) by decide)] at H; exact H
    clear H; have H := H1; clear H1; have H' := A0_ H; clear H; have hcz18_0 := zc0 BK301; have hcz18_1 := zc1 BK301; have hfz18_0 := kF BK301.out 0; have hfz18_1 := kF BK301.out 1
    go_wp2_with (first | ((with_reducible refine gC (f := 17) rfl ?_); refine zJ (some 15) Try.func17 #[.agg #[.slice A0_0 l0_0.length c0_0, .slice A0_1 l0_1.length c0_1], .int .i64 a1, .slice A2 l2.length c2] ?_; (with_reducible refine (spec_VoltageValid.calls k _ _ l0_0 _ _ l0_1 a1 _ _ l2 true _ ?side1 ?side2 ?side3 ?side4 ?side5 ?side6 A8.out).mono ?_); (case side1 => exact zC HR0_0 HB); (case side2 => exact HC0_0.out); (case side3 => exact zC HR0_1 HB); (case side4 => exact HC0_1.out); (case side5 => exact zC HR2 HB); (case side6 => exact HC2.out); rintro e w19 ⟨rfl, hb⟩; refine ⟨_, rfl, ?_⟩; replace BK301 := zK BK301 hb; replace HB := zB HB hb; (try clear hb); have hcz20_0 := zc0 BK301; have hcz20_1 := zc1 BK301; have hfz20_0 := kF BK301.out 0; have hfz20_1 := kF BK301.out 1) | (go_at_call 77; (with_reducible refine (spec_l2Dart.calls k _ _ l0_0 _ _ l0_1 a3 true _ ?side1 ?side2 ?side3 ?side4 A10.out).mono ?_); (case side1 => exact zC HR0_0 HB); (case side2 => exact HC0_0.out); (case side3 => exact zC HR0_1 HB); (case side4 => exact HC0_1.out); rintro e w21 ⟨rfl, hb⟩; replace BK301 := zK BK301 hb; replace HB := zB HB hb; (try clear hb)) | (go_at_call 58; (with_reducible refine (spec_PermValid.calls k _ _ l4 false _ ?side1 ?side2 A12.out).mono ?_); (case side1 => exact zC HR4 HB); (case side2 => exact HC4.out); rintro e w' ⟨rfl, ⟨nd, rfl⟩⟩))
    go_meet
    case rel => exact ⟨_, (true), zt, H', zo, ⟨zK_ BK301⟩, ⟨zB_ HB⟩⟩
   replace c11 := Bool.eq_false_iff.mpr c11; subst c11
   have H1 : (spec_CoverConj.j0 k l2 a3 l4 true l0_0 l0_1) = some (r1, r2) := by rw [if_neg (show ¬ (false = true) by decide)] at H; exact H
   clear H; have H := H1; clear H1; have H' := A0_ H; clear H; have hcz22_0 := zc0 BK301; have hcz22_1 := zc1 BK301; have hfz22_0 := kF BK301.out 0; have hfz22_1 := kF BK301.out 1
   go_wp2_with (first | ((with_reducible refine gC (f := 17) rfl ?_); refine zJ (some 15) Try.func17 #[.agg #[.slice A0_0 l0_0.length c0_0, .slice A0_1 l0_1.length c0_1], .int .i64 a1, .slice A2 l2.length c2] ?_; (with_reducible refine (spec_VoltageValid.calls k _ _ l0_0 _ _ l0_1 a1 _ _ l2 true _ ?side1 ?side2 ?side3 ?side4 ?side5 ?side6 A8.out).mono ?_); (case side1 => exact zC HR0_0 HB); (case side2 => exact HC0_0.out); (case side3 => exact zC HR0_1 HB); (case side4 => exact HC0_1.out); (case side5 => exact zC HR2 HB); (case side6 => exact HC2.out); rintro e w23 ⟨rfl, hb⟩; refine ⟨_, rfl, ?_⟩; replace BK301 := zK BK301 hb; replace HB := zB HB hb; (try clear hb); have hcz24_0 := zc0 BK301; have hcz24_1 := zc1 BK301; have hfz24_0 := kF BK301.out 0; have hfz24_1 := kF BK301.out 1) | (go_at_call 77; (with_reducible refine (spec_l2Dart.calls k _ _ l0_0 _ _ l0_1 a3 false _ ?side1 ?side2 ?side3 ?side4 A10.out).mono ?_); (case side1 => exact zC HR0_0 HB); (case side2 => exact HC0_0.out); (case side3 => exact zC HR0_1 HB); (case side4 => exact HC0_1.out); rintro e w25 ⟨rfl, hb⟩; replace BK301 := zK BK301 hb; replace HB := zB HB hb; (try clear hb)))
   go_meet
   case rel => exact ⟨_, (true), zt, H', zo, ⟨zK_ BK301⟩, ⟨zB_ HB⟩⟩
  replace c9 := Bool.eq_false_iff.mpr c9; subst c9
  have H1 : (spec_CoverConj.j0 k l2 a3 l4 true l0_0 l0_1) = some (r1, r2) := by rw [if_neg (show ¬ (false = true) by decide)] at H; exact H
  clear H; have H := H1; clear H1; have H' := A0_ H; clear H; have hcz26_0 := zc0 BK301; have hcz26_1 := zc1 BK301; have hfz26_0 := kF BK301.out 0; have hfz26_1 := kF BK301.out 1
  go_wp2_with (first | ((with_reducible refine gC (f := 17) rfl ?_); refine zJ (some 15) Try.func17 #[.agg #[.slice A0_0 l0_0.length c0_0, .slice A0_1 l0_1.length c0_1], .int .i64 a1, .slice A2 l2.length c2] ?_; (with_reducible refine (spec_VoltageValid.calls k _ _ l0_0 _ _ l0_1 a1 _ _ l2 false _ ?side1 ?side2 ?side3 ?side4 ?side5 ?side6 A8.out).mono ?_); (case side1 => exact zC HR0_0 HB); (case side2 => exact HC0_0.out); (case side3 => exact zC HR0_1 HB); (case side4 => exact HC0_1.out); (case side5 => exact zC HR2 HB); (case side6 => exact HC2.out); rintro e w27 ⟨rfl, hb⟩; refine ⟨_, rfl, ?_⟩; replace BK301 := zK BK301 hb; replace HB := zB HB hb; (try clear hb)))
  go_meet
  case rel => exact ⟨_, (true), zt, H', zo, ⟨zK_ BK301⟩, ⟨zB_ HB⟩⟩
 case rest =>
  clear HC6; (try clear c1); (try clear c2); (try clear p2); (try clear c4); (try clear c9); (try clear c11); (try clear c13); (try clear c17); (try clear hcz14_0); (try clear hcz14_1); (try clear hcz16_0); (try clear hcz16_1); (try clear hcz18_0); (try clear hcz18_1); (try clear hcz20_0); (try clear hcz20_1); (try clear hcz22_0); (try clear hcz22_1); (try clear hcz24_0); (try clear hcz24_1); (try clear hcz26_0); (try clear hcz26_1); (try clear hfz14_0); (try clear hfz14_1); (try clear hfz16_0); (try clear hfz16_1); (try clear hfz18_0); (try clear hfz18_1); (try clear hfz20_0); (try clear hfz20_1); (try clear hfz22_0); (try clear hfz22_1); (try clear hfz24_0); (try clear hfz24_1); (try clear hfz26_0); (try clear hfz26_1); obtain ⟨kq, x33_5, rfl, HA, HJ5, BK301, HB⟩ := hcut
  cases kq with
  | zero => exact absurd HA.out (by simp [spec_CoverConj.j0])
  | succ kj5 =>
   have H := HA.out; clear HA; simp only [spec_CoverConj.j0] at H
   by_cases c28 : x33_5 = true
   ·subst c28
    have H1 : (some ((([] : List (List Int))), false)) = some (r1, r2) := by rw [if_pos rfl] at H; exact H
    clear H; have H := H1; clear H1
    obtain ⟨y305, hy305⟩ : ∃ y_ : List (List Int), y_ = (([] : List (List Int))) := ⟨_, rfl⟩
    replace H : (some (y305, false)) = some (r1, r2) := zH hy305 H
    have Ny305 := A0_ hy305; clear hy305; simp only [Option.some.injEq, Prod.mk.injEq] at H; obtain ⟨rfl, rfl⟩ := H
    go_wp2_with (first | ((with_reducible refine gD (N := 34) rfl ?_); refine Kd.S_lit (Kd.slice 3 (Kd.int .i64)) _ 22 ?hg (N := 34) ?hd (xs := ([] : List (List Int))) (inner := []) (ok := fun _ => True) (okp := fun _ => True) ?hr ?hp (fun _ hk => hk) trivial (Below.refl _ _) (Nat.le_refl _) (by simp) ?_; (case hd => rfl); (case hg => rfl); (case hr => first | (go_simp; done) | (go_simp; rfl)); (case hp => exact (Reps.none _ _)); intro v306 w29 ho30 hb hg_ hnew_; clear hg_ hnew_; (first | rw [← Ny305.out] at ho30 | (simp only [Int.reduceToNat] at ho30; rw [← Ny305.out] at ho30)); have HO307 := A0_ (Kd.S_lower ho30 (bZ (zB_ HB))); replace BK301 := zK BK301 hb; replace HB := zB HB hb; clear hb ho30))
    go_ret2
    exact ⟨_, by first | rfl | (simp [*] <;> rfl), zS_ HO307, zB_ HB⟩
   replace c28 := Bool.eq_false_iff.mpr c28; subst c28
   have H1 : ((spec_l7Vertices.f kj5 l0_0).bind fun t308 => (if 0 ≤ a3 then (if a3 < (t308.length : Int) then ((spec_l9Conj.f kj5 l0_0 l0_1 l2 (rd t308 a3) l4).bind fun t312 => (some (t312, true))) else (none)) else (none))) = some (r1, r2) := by rw [if_neg (show ¬ (false = true) by decide)] at H; exact H
   clear H; have H := H1; clear H1; obtain ⟨t308, A31, H⟩ := zbind H
   by_cases c32 : 0 ≤ a3
   ·rw [if_pos c32] at H
    have c32b0 := dT c32; clear c32
    by_cases c33 : a3 < (t308.length : Int)
    ·rw [if_pos c33] at H
     have c33b0 := dT c33; clear c33; obtain ⟨t312, A34, H⟩ := zbind H; simp only [Option.some.injEq, Prod.mk.injEq] at H; obtain ⟨rfl, rfl⟩ := H
     try go_wp2
     replace BK301 := A0_ (kD BK301.out)
     replace HB := A0_ (bD HB.out)
     refine start_ (n := 12) (S := fun w' => w'.cell? ⟨gb301, 0, none⟩ = some (.slice A0_0 l0_0.length c0_0) ∧ w'.cell? ⟨gb301, 1, none⟩ = some (.slice A0_1 l0_1.length c0_1)) (ds := []) #[false, false, false, false, false, false, false, false, false, false, false, false] (by kernel_rfl) rfl rfl ⟨(kC BK301.out 0).trans rfl, (kC BK301.out 1).trans rfl⟩ (fun hHeld => ?_); refine with_tabW spec_CoverConj.tab3 spec_CoverConj.bits3 (fun HT_ HW_ => ?_)
     generalize wc.drew = w35 at BK301 HB hHeld ⊢
     refine zP 1 (some 36) #[false,true,false,false,false,false,false,false,false,false,false,false] ?_
     refine zP 2 (some 37) #[false,true,true,false,false,false,false,false,false,false,false,false] ?_
     refine zP 5 (some 40) #[false,true,true,false,false,true,false,false,false,false,false,false] ?_
     refine zP 8 (some 43) #[false,true,true,false,false,true,false,false,true,false,false,false] ?_
     refine take_ (i := 0) (N := some 35) (v := ?_) (a' := ?_) #[true, true, true, false, false, true, false, false, true, false, false, false] rfl rfl (take_ofW HT_.out HW_.out (by kernel_rfl)) (fun _ _ _ h => h) (Or.inl ⟨by rfl, ?_⟩) hHeld ?_ ?_
     rotate_left
     ·rintro w' ⟨s0, s1⟩
      go_simp
      with_reducible rfl
     rotate_left
     ·simp only [Act.put, List.setIfInBounds_toArray, List.set_cons_zero, List.set_cons_succ, i64_w, i32_w]
      rfl
     refine take_ (i := 3) (N := some 38) (v := ?_) (a' := ?_) #[true, true, true, true, false, true, false, false, true, false, false, false] rfl rfl (take_ofW HT_.out HW_.out (by kernel_rfl)) (fun _ _ _ h => h) (Or.inl ⟨by rfl, ?_⟩) hHeld ?_ ?_
     rotate_left
     ·rintro w' ⟨s0, s1⟩
      go_simp
      with_reducible rfl
     rotate_left
     ·simp only [Act.put, List.setIfInBounds_toArray, List.set_cons_zero, List.set_cons_succ, i64_w, i32_w]
      rfl
     refine one_ (i := 4) (N := some 39) #[true, true, true, true, true, true, false, false, true, false, false, false] rfl rfl (one_of HT_.out (by kernel_rfl)) (by decide) (fun K hK => ?_)
     refine goes_ Try.func82 (by kernel_rfl) rfl #[.slice A0_0 l0_0.length c0_0] (by rfl) rfl rfl (by (try simp only [List.map_toArray, List.map_cons, List.map_nil]); first | done | rfl | (simp only [List.length_drop, List.length_take]; rfl)) ?_
     with_reducible refine (spec_l7Vertices.calls kj5 _ _ l0_0 t308 _ ?side1 ?side2 A31.out).mono ?_
     (case side1 => exact zC HR0_0 HB)
     (case side2 => exact HC0_0.out)
     rintro e w36 ⟨v309, rfl, ho0, hb⟩
     refine ⟨_, rfl, ?_⟩
     have HO310 := A0_ (rL ho0 (bZ (zB_ HB)))
     replace BK301 := zK BK301 hb; replace HB := zB HB hb; (try clear hb); (try clear hb2); (try clear hk); (try clear hi); (try clear ho0); obtain ⟨Ao37, co37, eo37⟩ := rS HO310.out
     (first | subst eo37 | (injection eo37 with f1_ f2_ f3_; have f4_ := f1_.symm; have f5_ := f3_.symm; clear f1_ f2_ f3_; subst f4_; subst f5_))
     have p311 : 0 ≤ (a3 : Int) := zd
     have q311 : a3 < (t308.length : Int) := zd
     obtain ⟨ad311, e311, hx311_0⟩ := tI (rR HO310.out).2.2 a3 p311 q311
     cases e311
     replace p311 := eq_true p311; replace q311 := eq_true q311
     refine hK.out _ _ ⟨(kC BK301.out 0).trans rfl, (kC BK301.out 1).trans rfl⟩ (fun hHeld => ?_)
     clear hK K
     refine norm_ (a' := ?_) ?_ ?_
     rotate_left
     ·show Act.put _ (some 39) _ = _
      simp only [Act.put, List.setIfInBounds_toArray, List.set_cons_zero, List.set_cons_succ, i64_w, i32_w]
      rfl
     refine zP 6 (some 41) #[true,true,true,true,true,true,true,false,true,false,false,false] ?_
     refine zO (i := 7) (N := some 42) (v := ?_) (a' := ?_) #[true, true, true, true, true, true, true, true, true, false, false, false] rfl rfl (one_of HT_.out (by kernel_rfl)) (by decide) (by rfl) ?_ hHeld ?_ ?_
     rotate_left
     ·go_simp
      with_reducible rfl
     rotate_left
     ·simp only [Act.put, List.setIfInBounds_toArray, List.set_cons_zero, List.set_cons_succ, i64_w, i32_w]
      rfl
     refine one_ (i := 9) (N := some 44) #[true, true, true, true, true, true, true, true, true, true, false, false] rfl rfl (one_of HT_.out (by kernel_rfl)) (by decide) (fun K hK => ?_)
     refine goes_ Try.func81 (by kernel_rfl) rfl #[.agg #[.slice A0_0 l0_0.length c0_0, .slice A0_1 l0_1.length c0_1], .slice A2 l2.length c2, .int .i64 (rd t308 a3), .slice A4 l4.length c4] (by rfl) rfl rfl (by (try simp only [List.map_toArray, List.map_cons, List.map_nil]); first | done | rfl | (simp only [List.length_drop, List.length_take]; rfl)) ?_
     with_reducible refine (spec_l9Conj.calls kj5 _ _ l0_0 _ _ l0_1 _ _ l2 (rd t308 a3) _ _ l4 t312 _ ?side1 ?side2 ?side3 ?side4 ?side5 ?side6 ?side7 ?side8 A34.out).mono ?_
     (case side1 => exact zC HR0_0 HB)
     (case side2 => exact HC0_0.out)
     (case side3 => exact zC HR0_1 HB)
     (case side4 => exact HC0_1.out)
     (case side5 => exact zC HR2 HB)
     (case side6 => exact HC2.out)
     (case side7 => exact zC HR4 HB)
     (case side8 => exact HC4.out)
     rintro e w38 ⟨v313, rfl, ho0, hb⟩
     refine ⟨_, rfl, ?_⟩
     have HO314 := A0_ (Kd.S_lower (Kd.S_new' ho0 (rX (zR_ HO310))) (bZ (zB_ HB)))
     replace HO310 := zR HO310 hb; replace BK301 := zK BK301 hb; replace HB := zB HB hb; (try clear hb); (try clear hb2); (try clear hk); (try clear hi); (try clear ho0)
     refine hK.out _ _ ⟨(kC BK301.out 0).trans rfl, (kC BK301.out 1).trans rfl⟩ (fun hHeld => ?_)
     clear hK K
     refine norm_ (a' := ?_) ?_ ?_
     rotate_left
     ·show Act.put _ (some 44) _ = _
      simp only [Act.put, List.setIfInBounds_toArray, List.set_cons_zero, List.set_cons_succ, i64_w, i32_w]
      rfl
     refine zP 10 (some 10) #[true,true,true,true,true,true,true,true,true,true,true,false] ?_
     refine zP 11 (some 11) #[true,true,true,true,true,true,true,true,true,true,true,true] ?_
     refine done_ (done_of HT_.out (by kernel_rfl)) ?_
     try go_wp2
     go_ret2
     exact ⟨_, by first | rfl | (simp [*] <;> rfl), zmS HO314 (fun _ hk => trivial), zB_ HB⟩
    rw [if_neg c33] at H
    exact absurd H (by simp)
   rw [if_neg c32] at H
   exact absurd H (by simp)

end Go.Proofs.Ytmcgkckdnelcdaa.PFnExactCoverConj
