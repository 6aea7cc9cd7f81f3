-- Made by a program of this session (wip/tools) out of the loaded program; not trusted: Lean checks it.
import Derived.Test.YtmegggomhjgehaaPFnDeckx0
-- packed
namespace Go.Proofs.Ytmegggomhjgehaa.PFnDeck
open Go.RowKit Go.Proofs.YtmegggomhjgehaaW.PrintWords Go.Proofs.YtmegggomhjgehaaW.PrintLast Go.Proofs.YtmegggomhjgehaaW.PrintMore
attribute [local go_sem] max2_int min2_int max_two min_two max_three min_three max_four min_four   -- for this text's walks alone
set_option linter.unusedVariables false
set_option linter.unusedSimpArgs false

/-! ### spec_l3Next: function 80 -/
mutual
def spec_l3Next.j1 : Nat → List Int → Int → Option (List Int)
  | 0, _, _ => none
  | k + 1, x0, x3 => if x3 < 0 then (some (([] : List Int))) else (spec_l3Next.l1 k x0 x3 (wrap64 ((x0.length : Int) - 1)))
def spec_l3Next.l1 : Nat → List Int → Int → Int → Option (List Int)
  | 0, _, _, _ => none
  | k + 1, x0, x3, x4 => if 0 ≤ x4 then (if x4 < (x0.length : Int) then (if 0 ≤ x3 then (if x3 < (x0.length : Int) then (if (rd x0 x4) < (rd x0 x3) then (spec_l3Next.l1 k x0 x3 (wrap64 (x4 - 1))) else ((some (([] : List Int) : List Int)).bind fun y414 => (if x3 ≤ (x0.length : Int) then (if y414.length + (x0.take (x3 : Int).toNat).length < 17592186044416 then ((some (y414 ++ (x0.take (x3 : Int).toNat) : List Int)).bind fun y418 => (if y418.length < 17592186044416 then (spec_l3Next.l2 k x0 x3 x4 (y418 ++ [rd x0 x4]) (wrap64 ((x0.length : Int) - 1))) else (none))) else (none)) else (none)))) else (none)) else (none)) else (none)) else (none)
def spec_l3Next.l2 : Nat → List Int → Int → Int → List Int → Int → Option (List Int)
  | 0, _, _, _, _, _ => none
  | k + 1, x0, x3, x4, x5, x6 => if x6 > x3 then (if x6 = x4 then (if 0 ≤ x3 then (if x3 < (x0.length : Int) then (if x5.length < 17592186044416 then (spec_l3Next.l2 k x0 x3 x4 (x5 ++ [rd x0 x3]) (wrap64 (x6 - 1))) else (none)) else (none)) else (none)) else (if 0 ≤ x6 then (if x6 < (x0.length : Int) then (if x5.length < 17592186044416 then (spec_l3Next.l2 k x0 x3 x4 (x5 ++ [rd x0 x6]) (wrap64 (x6 - 1))) else (none)) else (none)) else (none))) else (some x5)
def spec_l3Next.l0 : Nat → List Int → Int → Option (List Int)
  | 0, _, _ => none
  | k + 1, x0, x3 => if x3 ≥ 0 then (if 0 ≤ x3 then (if x3 < (x0.length : Int) then (if 0 ≤ (wrap64 (x3 + 1)) then (if (wrap64 (x3 + 1)) < (x0.length : Int) then (if (rd x0 x3) > (rd x0 (wrap64 (x3 + 1))) then (spec_l3Next.l0 k x0 (wrap64 (x3 - 1))) else (spec_l3Next.j1 k x0 x3)) else (none)) else (none)) else (none)) else (none)) else (spec_l3Next.j1 k x0 x3)
end
def spec_l3Next.f (k : Nat) (l0 : List Int) : Option (List Int) := spec_l3Next.l0 k l0 (wrap64 ((l0.length : Int) - 2))
set_option maxHeartbeats 8000000 in
set_option maxRecDepth 100000 in
theorem spec_l3Next.calls (k : Nat) (A0 : Option Addr) (c0 : Nat) (l0 : List Int) (r : List Int) (w : World) (hr0 : Kd.C (Kd.int .i64) w A0 l0.length l0) (hc0 : l0.length ≤ c0) (h : spec_l3Next.f k l0 = some r) :
    Calls Try.prog 80 #[.slice A0 l0.length c0] w fun e w' => ∃ v0_ : Value, e = .returned (v0_) ∧ Kd.R (Kd.int .i64) 3 w' w.heap.size (fun _ => True) v0_ r ∧ Below w.heap.size w w' := by
 have HR0 := A0_ hr0; have HC0 := A0_ hc0; clear hr0 hc0
 have HB := A0_ (Below.refl w.heap.size w)
 have H : (spec_l3Next.l0 k l0 (wrap64 ((l0.length : Int) - 2))) = some r := h
 clear h; have HC2 := A0_ H; clear H
 go_enter Try.func80, Try.ntmps80
 go_upto_block 0 with (fail)
 repeat (go_quiet (fail); go_upto_block 0 with (fail))
 go_cut [3] (fun v3 wc => ∃ (kq : Nat) (x3_1 : Int), v3 = .int .i64 x3_1 ∧ Aside0 (spec_l3Next.j1 kq l0 x3_1 = some r) ∧ Aside0 (kq ≤ k) ∧ Aside0 (Below w.heap.size w wc))
 case first =>
  have H := HC2.out; clear HC2; have H' := A0_ H; clear H
  go_wp2
  repeat (go_quiet (fail); try go_wp2)
  go_loopg [3] k (fun kq v3 w' => ∃ (x3_1 : Int), v3 = .int .i64 x3_1 ∧ Aside0 (spec_l3Next.l0 kq l0 x3_1 = some r) ∧ Aside0 (kq ≤ k) ∧ Aside0 (Below w.heap.size w w'))
  case atStart => exact ⟨(wrap64 ((l0.length : Int) - 2)), zt, H', ⟨Nat.le_refl _⟩, ⟨zB_ HB⟩⟩
  case round =>
   clear H'; (try clear p2); obtain ⟨x3_1, rfl, HA, HK1, HB⟩ := hrel
   cases gk with
   | zero => exact absurd HA.out (by simp [spec_l3Next.l0])
   | succ k1 =>
    have H := HA.out; clear HA; simp only [spec_l3Next.l0] at H
    by_cases c3 : x3_1 ≥ 0
    ·rw [if_pos c3] at H
     have c3b0 : decide (0 ≤ x3_1) = true := dT c3
     clear c3
     (first | rw [c3b0] | (simp only [i64_w, i32_w]; rw [c3b0]) | skip)
     by_cases c4 : 0 ≤ x3_1
     ·rw [if_pos c4] at H
      have c4b0 := dT c4; clear c4
      by_cases c5 : x3_1 < (l0.length : Int)
      ·rw [if_pos c5] at H
       have c5b0 := dT c5; clear c5
       obtain ⟨ji6, hji6⟩ : ∃ j_ : Int, (wrap64 (x3_1 + 1)) = j_ := ⟨_, rfl⟩
       replace H : (if 0 ≤ (ji6) then (if (ji6) < (l0.length : Int) then (if (rd l0 x3_1) > (rd l0 (ji6)) then (spec_l3Next.l0 k1 l0 (wrap64 (x3_1 - 1))) else (spec_l3Next.j1 k1 l0 x3_1)) else (none)) else (none)) = some r := by first | (rw [hji6] at H; exact H) | (simp only [hji6] at H ⊢; exact H)
       have hji6w : (IntKind.i64.wrap (x3_1 + 1)) = ji6 := (i64_w _).trans hji6
       by_cases c7 : 0 ≤ (ji6)
       ·rw [if_pos c7] at H
        have c7b0 := dT c7; clear c7
        by_cases c8 : (ji6) < (l0.length : Int)
        ·rw [if_pos c8] at H
         have c8b0 := dT c8; clear c8
         by_cases c9 : (rd l0 x3_1) > (rd l0 (ji6))
         ·rw [if_pos c9] at H
          have c9b0 : decide ((rd l0 (ji6)) < (rd l0 x3_1)) = true := dT c9
          clear c9; have H' := A0_ H; clear H
          have p407 : 0 ≤ (x3_1 : Int) := zd
          have q407 : x3_1 < (l0.length : Int) := zd
          obtain ⟨ad407, e407, hx407_0⟩ := tI HR0.out x3_1 p407 q407
          cases e407
          try replace hx407_0 := (HB.out.cell (wL w _ hx407_0)).trans hx407_0
          replace p407 := eq_true p407; replace q407 := eq_true q407
          have p408 : 0 ≤ ((ji6) : Int) := zd
          have q408 : (ji6) < (l0.length : Int) := zd
          obtain ⟨ad408, e408, hx408_0⟩ := tI HR0.out (ji6) p408 q408
          obtain rfl : ad407 = ad408 := (by injection e408)
          try replace hx408_0 := (HB.out.cell (wL w _ hx408_0)).trans hx408_0
          replace p408 := eq_true p408; replace q408 := eq_true q408
          go_wp2
          repeat (go_quiet (fail); try go_wp2)
          go_roundg k1
          case measure => have := HK1.out; omega
          case rel => exact ⟨(wrap64 (x3_1 - 1)), zt, H', ⟨by have := HK1.out; omega⟩, ⟨zB_ HB⟩⟩
         rw [if_neg c9] at H
         have c9b0 : decide ((rd l0 (ji6)) < (rd l0 x3_1)) = false := dF c9
         clear c9; have H' := A0_ H; clear H
         have p407 : 0 ≤ (x3_1 : Int) := zd
         have q407 : x3_1 < (l0.length : Int) := zd
         obtain ⟨ad407, e407, hx407_0⟩ := tI HR0.out x3_1 p407 q407
         cases e407
         try replace hx407_0 := (HB.out.cell (wL w _ hx407_0)).trans hx407_0
         replace p407 := eq_true p407; replace q407 := eq_true q407
         have p408 : 0 ≤ ((ji6) : Int) := zd
         have q408 : (ji6) < (l0.length : Int) := zd
         obtain ⟨ad408, e408, hx408_0⟩ := tI HR0.out (ji6) p408 q408
         obtain rfl : ad407 = ad408 := (by injection e408)
         try replace hx408_0 := (HB.out.cell (wL w _ hx408_0)).trans hx408_0
         replace p408 := eq_true p408; replace q408 := eq_true q408
         go_wp2
         repeat (go_quiet (fail); try go_wp2)
         go_meet
         case rel => exact ⟨_, (x3_1), zt, H', ⟨by have := HK1.out; first | omega | exact Nat.le_refl _⟩, ⟨zB_ HB⟩⟩
        rw [if_neg c8] at H
        exact absurd H (by simp)
       rw [if_neg c7] at H
       exact absurd H (by simp)
      rw [if_neg c5] at H
      exact absurd H (by simp)
     rw [if_neg c4] at H
     exact absurd H (by simp)
    rw [if_neg c3] at H
    have c3b0 : decide (0 ≤ x3_1) = false := dF c3
    clear c3
    (first | rw [c3b0] | (simp only [i64_w, i32_w]; rw [c3b0]) | skip)
    have H' := A0_ H; clear H
    go_wp2
    repeat (go_quiet (fail); try go_wp2)
    go_meet
    case rel => exact ⟨_, (x3_1), zt, H', ⟨by have := HK1.out; first | omega | exact Nat.le_refl _⟩, ⟨zB_ HB⟩⟩
 case rest =>
  clear HC2; (try clear p2); (try clear c3); (try clear c3b0); (try clear c4); (try clear c4b0); (try clear p4); (try clear q4); (try clear hx4); (try clear c5); (try clear c5b0); (try clear p6); (try clear c7); (try clear c7b0); (try clear c8); (try clear c8b0); (try clear c9); (try clear c9b0); (try clear hx407_0); (try clear hx408_0); (try clear p2); (try clear p407); (try clear p408); (try clear q407); (try clear q408); obtain ⟨kq, x3_1, rfl, HA, HJ1, HB⟩ := hcut
  cases kq with
  | zero => exact absurd HA.out (by simp [spec_l3Next.j1])
  | succ kj1 =>
   have H := HA.out; clear HA; simp only [spec_l3Next.j1] at H
   by_cases c10 : x3_1 < 0
   ·rw [if_pos c10] at H
    have c10b0 := dT c10; clear c10
    obtain ⟨y409, hy409⟩ : ∃ y_ : List Int, y_ = (([] : List Int)) := ⟨_, rfl⟩
    replace H : (some y409) = some r := zH hy409 H
    have Ny409 := A0_ hy409; clear hy409; obtain rfl := sI H
    go_wp2_with (first | ((with_reducible refine gD (N := 28) rfl ?_); refine Kd.R_lit (Kd.int .i64) _ 3 ?hg (N := 28) ?hd (xs := ([] : List Int)) (inner := []) (ok := fun _ => True) (okp := fun _ => True) ?hr ?hp (fun _ hk => hk) trivial (Below.refl _ _) (Nat.le_refl _) (by simp) ?_; (case hd => rfl); (case hg => rfl); (case hr => first | (go_simp; done) | (go_simp; rfl)); (case hp => exact (Reps.none _ _)); intro v410 w11 ho12 hb hg_ hnew_; clear hg_ hnew_; (first | rw [← Ny409.out] at ho12 | (simp only [Int.reduceToNat] at ho12; rw [← Ny409.out] at ho12)); have HO411 := A0_ (rL ho12 (bZ (zB_ HB))); replace HB := zB HB hb; clear hb ho12))
    repeat (go_quiet (first | ((with_reducible refine gD (N := 28) rfl ?_); refine Kd.R_lit (Kd.int .i64) _ 3 ?hg (N := 28) ?hd (xs := ([] : List Int)) (inner := []) (ok := fun _ => True) (okp := fun _ => True) ?hr ?hp (fun _ hk => hk) trivial (Below.refl _ _) (Nat.le_refl _) (by simp) ?_; (case hd => rfl); (case hg => rfl); (case hr => first | (go_simp; done) | (go_simp; rfl)); (case hp => exact (Reps.none _ _)); intro v410 w11 ho12 hb hg_ hnew_; clear hg_ hnew_; (first | rw [← Ny409.out] at ho12 | (simp only [Int.reduceToNat] at ho12; rw [← Ny409.out] at ho12)); have HO411 := A0_ (rL ho12 (bZ (zB_ HB))); replace HB := zB HB hb; clear hb ho12)); try go_wp2_with (first | ((with_reducible refine gD (N := 28) rfl ?_); refine Kd.R_lit (Kd.int .i64) _ 3 ?hg (N := 28) ?hd (xs := ([] : List Int)) (inner := []) (ok := fun _ => True) (okp := fun _ => True) ?hr ?hp (fun _ hk => hk) trivial (Below.refl _ _) (Nat.le_refl _) (by simp) ?_; (case hd => rfl); (case hg => rfl); (case hr => first | (go_simp; done) | (go_simp; rfl)); (case hp => exact (Reps.none _ _)); intro v410 w11 ho12 hb hg_ hnew_; clear hg_ hnew_; (first | rw [← Ny409.out] at ho12 | (simp only [Int.reduceToNat] at ho12; rw [← Ny409.out] at ho12)); have n0_ := A0_ (rL ho12 (bZ (zB_ HB))); have n1_ := zB HB hb; clear HB; have HO411 := n0_; have HB := n1_; clear n0_ n1_ hb ho12)))
    go_ret
    exact ⟨_, by first | rfl | (simp [*] <;> rfl), zR_ HO411, zB_ HB⟩
   rw [if_neg c10] at H; have c10b0 := dF c10; clear c10; have H' := A0_ H; clear H
   go_wp2
   repeat (go_quiet (fail); try go_wp2)
   go_loopg [4] kj1 (fun kq v4 w' => ∃ (x4_2 : Int), v4 = .int .i64 x4_2 ∧ Aside0 (spec_l3Next.l1 kq l0 x3_1 x4_2 = some r) ∧ Aside0 (kq ≤ kj1) ∧ Aside0 (Below w.heap.size w w'))
   case atStart => exact ⟨(wrap64 ((l0.length : Int) - 1)), zt, H', ⟨Nat.le_refl _⟩, ⟨zB_ HB⟩⟩
   case round =>
    clear H'; (try clear c1); (try clear p2); (try clear c3); (try clear c3b0); (try clear c4); (try clear c4b0); (try clear p4); (try clear q4); (try clear hx4); (try clear c5); (try clear c5b0); (try clear p6); (try clear c7); (try clear c7b0); (try clear c8); (try clear c8b0); (try clear c9); (try clear c9b0); (try clear c10); (try clear c10b0); (try clear hx407_0); (try clear hx408_0); (try clear p2); (try clear p4); (try clear p407); (try clear p408); (try clear p6); (try clear q4); (try clear q407); (try clear q408); obtain ⟨x4_2, rfl, HA, HK2, HB⟩ := hrel
    cases gk with
    | zero => exact absurd HA.out (by simp [spec_l3Next.l1])
    | succ k2 =>
     have H := HA.out; clear HA; simp only [spec_l3Next.l1] at H
     by_cases c13 : 0 ≤ x4_2
     ·rw [if_pos c13] at H
      have c13b0 := dT c13; clear c13
      by_cases c14 : x4_2 < (l0.length : Int)
      ·rw [if_pos c14] at H
       have c14b0 := dT c14; clear c14
       by_cases c15 : 0 ≤ x3_1
       ·rw [if_pos c15] at H
        have c15b0 := dT c15; clear c15
        by_cases c16 : x3_1 < (l0.length : Int)
        ·rw [if_pos c16] at H
         have c16b0 := dT c16; clear c16
         by_cases c17 : (rd l0 x4_2) < (rd l0 x3_1)
         ·rw [if_pos c17] at H
          have c17b0 := dT c17; clear c17; have H' := A0_ H; clear H
          have p412 : 0 ≤ (x4_2 : Int) := zd
          have q412 : x4_2 < (l0.length : Int) := zd
          obtain ⟨ad412, e412, hx412_0⟩ := tI HR0.out x4_2 p412 q412
          cases e412
          try replace hx412_0 := (HB.out.cell (wL w _ hx412_0)).trans hx412_0
          replace p412 := eq_true p412; replace q412 := eq_true q412
          have p413 : 0 ≤ (x3_1 : Int) := zd
          have q413 : x3_1 < (l0.length : Int) := zd
          obtain ⟨ad413, e413, hx413_0⟩ := tI HR0.out x3_1 p413 q413
          obtain rfl : ad412 = ad413 := (by injection e413)
          try replace hx413_0 := (HB.out.cell (wL w _ hx413_0)).trans hx413_0
          replace p413 := eq_true p413; replace q413 := eq_true q413
          go_wp2
          repeat (go_quiet (fail); try go_wp2)
          go_roundg k2
          case measure => have := HJ1.out; have := HK2.out; omega
          case rel => exact ⟨(wrap64 (x4_2 - 1)), zt, H', ⟨by have := HJ1.out; have := HK2.out; omega⟩, ⟨zB_ HB⟩⟩
         rw [if_neg c17] at H; have c17b0 := dF c17; clear c17
         obtain ⟨y414, hy414⟩ : ∃ y_ : List Int, y_ = (([] : List Int)) := ⟨_, rfl⟩
         replace H : (if x3_1 ≤ (l0.length : Int) then (if y414.length + (l0.take (x3_1 : Int).toNat).length < 17592186044416 then ((some (y414 ++ (l0.take (x3_1 : Int).toNat) : List Int)).bind fun y418 => (if y418.length < 17592186044416 then (spec_l3Next.l2 k2 l0 x3_1 x4_2 (y418 ++ [rd l0 x4_2]) (wrap64 ((l0.length : Int) - 1))) else (none))) else (none)) else (none)) = some r := zH hy414 H
         have Ny414 := A0_ hy414; clear hy414
         have c18b0 := eq_true (zd : 0 ≤ x3_1)
         by_cases c19 : x3_1 ≤ (l0.length : Int)
         ·rw [if_pos c19] at H
          have c19b0 := eq_true c19; have c19b1 := dT c19; clear c19
          by_cases c20 : y414.length + (l0.take (x3_1 : Int).toNat).length < 17592186044416
          ·rw [if_pos c20] at H
           have LMc20 := A0_ c20; clear c20
           obtain ⟨y418, hy418⟩ : ∃ y_ : List Int, y_ = (y414 ++ (l0.take (x3_1 : Int).toNat)) := ⟨_, rfl⟩
           replace H : (if y418.length < 17592186044416 then (spec_l3Next.l2 k2 l0 x3_1 x4_2 (y418 ++ [rd l0 x4_2]) (wrap64 ((l0.length : Int) - 1))) else (none)) = some r := zH hy418 H
           have Ny418 := A0_ hy418; clear hy418
           by_cases c21 : y418.length < 17592186044416
           ·rw [if_pos c21] at H
            have LMc21 := A0_ c21; clear c21
            obtain ⟨y422, hy422⟩ : ∃ y_ : List Int, y_ = (y418 ++ [rd l0 x4_2]) := ⟨_, rfl⟩
            replace H : (spec_l3Next.l2 k2 l0 x3_1 x4_2 y422 (wrap64 ((l0.length : Int) - 1))) = some r := zH hy422 H
            have Ny422 := A0_ hy422; clear hy422; have H' := A0_ H; clear H
            have p412 : 0 ≤ (x4_2 : Int) := zd
            have q412 : x4_2 < (l0.length : Int) := zd
            obtain ⟨ad412, e412, hx412_0⟩ := tI HR0.out x4_2 p412 q412
            cases e412
            try replace hx412_0 := (HB.out.cell (wL w _ hx412_0)).trans hx412_0
            replace p412 := eq_true p412; replace q412 := eq_true q412
            have p413 : 0 ≤ (x3_1 : Int) := zd
            have q413 : x3_1 < (l0.length : Int) := zd
            obtain ⟨ad413, e413, hx413_0⟩ := tI HR0.out x3_1 p413 q413
            obtain rfl : ad412 = ad413 := (by injection e413)
            try replace hx413_0 := (HB.out.cell (wL w _ hx413_0)).trans hx413_0
            replace p413 := eq_true p413; replace q413 := eq_true q413
            go_wp2_with (first | ((with_reducible refine gD (N := 43) rfl ?_); refine Kd.R_lit (Kd.int .i64) _ 3 ?hg (N := 43) ?hd (xs := ([] : List Int)) (inner := []) (ok := fun _ => True) (okp := fun _ => True) ?hr ?hp (fun _ hk => hk) trivial (Below.refl _ _) (Nat.le_refl _) (by simp) ?_; (case hd => rfl); (case hg => rfl); (case hr => first | (go_simp; done) | (go_simp; rfl)); (case hp => exact (Reps.none _ _)); intro v415 w22 ho23 hb hg_ hnew_; clear hg_ hnew_; (first | rw [← Ny414.out] at ho23 | (simp only [Int.reduceToNat] at ho23; rw [← Ny414.out] at ho23)); have HO416 := A0_ (rL ho23 (bZ (zB_ HB))); replace HB := zB HB hb; clear hb ho23; obtain ⟨i024, hi024, _, hsz24, _⟩ := info_parts info3; obtain ⟨hcut24, hA24, hC24⟩ := print_take_of (P := Try.prog) (Value.int .i64) 0 23 3 .i64 Try.underlying23 hi024 hsz24 (some ad412) c0 l0 x3_1 (zd) (zd) HC0.out; have HR417 := A0_ (Kd.C_of_reads (h1 := fun _ => rfl) (hA24 _ (Kd.reads_of_C HR0.out))); have HC417 := A0_ hC24; clear hA24 hC24 hi024 hsz24) | ((with_reducible refine gB (b := .append) (xs := #[.tmp 43, .tmp 46]) rfl ?_); at_builtin; refine Kd.R_append_rows (Kd.int .i64) (w0 := w) w.heap.size rfl (.tmp 43) (.tmp 46) 23 3 (.int .i64 0) 8 rfl Try.underlying23 info3 rfl (by decide) (by omega) v415 y414 (l0.take (x3_1 : Int).toNat) _ _ _ (fun _ => True) (fun _ => False) rfl rfl ?aO ?aR (fun _ _ h => h) (fun _ h => h.elim) ?aF ?aB ?aS ?aL ?_; (case aR => first | (have h0_ := cB HR417.out HB.out; rw [show (l0.take (x3_1 : Int).toNat).length = x3_1.toNat from (by rw [List.length_take]; have h_ : (x3_1 : Int) ≤ (l0.length : Int) := zd; omega)] at h0_; exact h0_) | (rw [← show (l0.take (x3_1 : Int).toNat).length = x3_1.toNat from (by rw [List.length_take]; have h_ : (x3_1 : Int) ≤ (l0.length : Int) := zd; omega)]; repeat (first | exact (cB HR417.out HB.out) | (with_reducible refine cA ?_ _) | (with_reducible refine cN ?_ _) | (with_reducible refine cD ?_))) | (repeat (first | exact (cB HR417.out HB.out) | (with_reducible refine cA ?_ _) | (with_reducible refine cN ?_ _) | (with_reducible refine cD ?_)))); (case aB => exact (zB_ HB)); (case aF => exact (fun _ _ => trivial)); (case aO => exact (zR_ HO416)); (case aS => exact (bZ (zB_ HB))); (case aL => have := LMc20.out; have hlx_ := (show (l0.take (x3_1 : Int).toNat).length = x3_1.toNat from (by rw [List.length_take]; have h_ : (x3_1 : Int) ≤ (l0.length : Int) := zd; omega)); omega); intro v419 w25 ho hb hg hat; rw [← Ny418.out] at ho; replace HB := A0_ (hb); have HO420 := A0_ (ho); clear HO416 ho hb hg hat; have p421 : 0 ≤ (x4_2 : Int) := zd; have q421 : x4_2 < (l0.length : Int) := zd; obtain ⟨ad421, e421, hx421_0⟩ := tI HR0.out x4_2 p421 q421; obtain rfl : ad412 = ad421 := (by injection e421); try replace hx421_0 := (HB.out.cell (wL w _ hx421_0)).trans hx421_0; replace p421 := eq_true p421; replace q421 := eq_true q421) | ((with_reducible refine gB (b := .append) (xs := #[.tmp 48, .tmp 53]) rfl ?_); at_builtin; refine Kd.R_append (Kd.int .i64) (w0 := w) w.heap.size rfl (.tmp 48) (.tmp 53) 23 3 (.int .i64 0) 8 rfl Try.underlying23 info3 rfl (by decide) (by omega) v419 y418 (rd l0 x4_2) [.int .i64 (rd l0 x4_2)] (fun _ => True) (fun _ => False) rfl rfl ?aP (fun _ hk => hk.elim) ?aF ?aO ?aB ?aS ?aL ?_; (case aP => exact rfl); (case aB => exact (zB_ HB)); (case aF => exact (fun _ _ => trivial)); (case aO => exact (zR_ HO420)); (case aS => exact (bZ (zB_ HB))); (case aL => have := LMc21.out; omega); intro v423 w26 ho hb hg hat; rw [← Ny422.out] at ho; replace HB := A0_ (hb); have HO424 := A0_ (ho); clear HO420 ho hb hg hat))
            repeat (go_quiet (first | ((with_reducible refine gD (N := 43) rfl ?_); refine Kd.R_lit (Kd.int .i64) _ 3 ?hg (N := 43) ?hd (xs := ([] : List Int)) (inner := []) (ok := fun _ => True) (okp := fun _ => True) ?hr ?hp (fun _ hk => hk) trivial (Below.refl _ _) (Nat.le_refl _) (by simp) ?_; (case hd => rfl); (case hg => rfl); (case hr => first | (go_simp; done) | (go_simp; rfl)); (case hp => exact (Reps.none _ _)); intro v415 w22 ho23 hb hg_ hnew_; clear hg_ hnew_; (first | rw [← Ny414.out] at ho23 | (simp only [Int.reduceToNat] at ho23; rw [← Ny414.out] at ho23)); have HO416 := A0_ (rL ho23 (bZ (zB_ HB))); replace HB := zB HB hb; clear hb ho23; obtain ⟨i024, hi024, _, hsz24, _⟩ := info_parts info3; obtain ⟨hcut24, hA24, hC24⟩ := print_take_of (P := Try.prog) (Value.int .i64) 0 23 3 .i64 Try.underlying23 hi024 hsz24 (some ad412) c0 l0 x3_1 (zd) (zd) HC0.out; have HR417 := A0_ (Kd.C_of_reads (h1 := fun _ => rfl) (hA24 _ (Kd.reads_of_C HR0.out))); have HC417 := A0_ hC24; clear hA24 hC24 hi024 hsz24) | ((with_reducible refine gB (b := .append) (xs := #[.tmp 43, .tmp 46]) rfl ?_); at_builtin; refine Kd.R_append_rows (Kd.int .i64) (w0 := w) w.heap.size rfl (.tmp 43) (.tmp 46) 23 3 (.int .i64 0) 8 rfl Try.underlying23 info3 rfl (by decide) (by omega) v415 y414 (l0.take (x3_1 : Int).toNat) _ _ _ (fun _ => True) (fun _ => False) rfl rfl ?aO ?aR (fun _ _ h => h) (fun _ h => h.elim) ?aF ?aB ?aS ?aL ?_; (case aR => first | (have h0_ := cB HR417.out HB.out; rw [show (l0.take (x3_1 : Int).toNat).length = x3_1.toNat from (by rw [List.length_take]; have h_ : (x3_1 : Int) ≤ (l0.length : Int) := zd; omega)] at h0_; exact h0_) | (rw [← show (l0.take (x3_1 : Int).toNat).length = x3_1.toNat from (by rw [List.length_take]; have h_ : (x3_1 : Int) ≤ (l0.length : Int) := zd; omega)]; repeat (first | exact (cB HR417.out HB.out) | (with_reducible refine cA ?_ _) | (with_reducible refine cN ?_ _) | (with_reducible refine cD ?_))) | (repeat (first | exact (cB HR417.out HB.out) | (with_reducible refine cA ?_ _) | (with_reducible refine cN ?_ _) | (with_reducible refine cD ?_)))); (case aB => exact (zB_ HB)); (case aF => exact (fun _ _ => trivial)); (case aO => exact (zR_ HO416)); (case aS => exact (bZ (zB_ HB))); (case aL => have := LMc20.out; have hlx_ := (show (l0.take (x3_1 : Int).toNat).length = x3_1.toNat from (by rw [List.length_take]; have h_ : (x3_1 : Int) ≤ (l0.length : Int) := zd; omega)); omega); intro v419 w25 ho hb hg hat; rw [← Ny418.out] at ho; replace HB := A0_ (hb); have HO420 := A0_ (ho); clear HO416 ho hb hg hat; have p421 : 0 ≤ (x4_2 : Int) := zd; have q421 : x4_2 < (l0.length : Int) := zd; obtain ⟨ad421, e421, hx421_0⟩ := tI HR0.out x4_2 p421 q421; obtain rfl : ad412 = ad421 := (by injection e421); try replace hx421_0 := (HB.out.cell (wL w _ hx421_0)).trans hx421_0; replace p421 := eq_true p421; replace q421 := eq_true q421) | ((with_reducible refine gB (b := .append) (xs := #[.tmp 48, .tmp 53]) rfl ?_); at_builtin; refine Kd.R_append (Kd.int .i64) (w0 := w) w.heap.size rfl (.tmp 48) (.tmp 53) 23 3 (.int .i64 0) 8 rfl Try.underlying23 info3 rfl (by decide) (by omega) v419 y418 (rd l0 x4_2) [.int .i64 (rd l0 x4_2)] (fun _ => True) (fun _ => False) rfl rfl ?aP (fun _ hk => hk.elim) ?aF ?aO ?aB ?aS ?aL ?_; (case aP => exact rfl); (case aB => exact (zB_ HB)); (case aF => exact (fun _ _ => trivial)); (case aO => exact (zR_ HO420)); (case aS => exact (bZ (zB_ HB))); (case aL => have := LMc21.out; omega); intro v423 w26 ho hb hg hat; rw [← Ny422.out] at ho; replace HB := A0_ (hb); have HO424 := A0_ (ho); clear HO420 ho hb hg hat)); try go_wp2_with (first | ((with_reducible refine gD (N := 43) rfl ?_); refine Kd.R_lit (Kd.int .i64) _ 3 ?hg (N := 43) ?hd (xs := ([] : List Int)) (inner := []) (ok := fun _ => True) (okp := fun _ => True) ?hr ?hp (fun _ hk => hk) trivial (Below.refl _ _) (Nat.le_refl _) (by simp) ?_; (case hd => rfl); (case hg => rfl); (case hr => first | (go_simp; done) | (go_simp; rfl)); (case hp => exact (Reps.none _ _)); intro v415 w22 ho23 hb hg_ hnew_; clear hg_ hnew_; (first | rw [← Ny414.out] at ho23 | (simp only [Int.reduceToNat] at ho23; rw [← Ny414.out] at ho23)); have n0_ := A0_ (rL ho23 (bZ (zB_ HB))); have n1_ := zB HB hb; clear HB; have HO416 := n0_; have HB := n1_; clear n0_ n1_ hb ho23; obtain ⟨i024, hi024, _, hsz24, _⟩ := info_parts info3; obtain ⟨hcut24, hA24, hC24⟩ := print_take_of (P := Try.prog) (Value.int .i64) 0 23 3 .i64 Try.underlying23 hi024 hsz24 (some ad412) c0 l0 x3_1 (zd) (zd) HC0.out; have HR417 := A0_ (Kd.C_of_reads (h1 := fun _ => rfl) (hA24 _ (Kd.reads_of_C HR0.out))); have HC417 := A0_ hC24; clear hA24 hC24 hi024 hsz24) | ((with_reducible refine gB (b := .append) (xs := #[.tmp 43, .tmp 46]) rfl ?_); at_builtin; refine Kd.R_append_rows (Kd.int .i64) (w0 := w) w.heap.size rfl (.tmp 43) (.tmp 46) 23 3 (.int .i64 0) 8 rfl Try.underlying23 info3 rfl (by decide) (by omega) v415 y414 (l0.take (x3_1 : Int).toNat) _ _ _ (fun _ => True) (fun _ => False) rfl rfl ?aO ?aR (fun _ _ h => h) (fun _ h => h.elim) ?aF ?aB ?aS ?aL ?_; (case aR => first | (have h0_ := cB HR417.out HB.out; rw [show (l0.take (x3_1 : Int).toNat).length = x3_1.toNat from (by rw [List.length_take]; have h_ : (x3_1 : Int) ≤ (l0.length : Int) := zd; omega)] at h0_; exact h0_) | (rw [← show (l0.take (x3_1 : Int).toNat).length = x3_1.toNat from (by rw [List.length_take]; have h_ : (x3_1 : Int) ≤ (l0.length : Int) := zd; omega)]; repeat (first | exact (cB HR417.out HB.out) | (with_reducible refine cA ?_ _) | (with_reducible refine cN ?_ _) | (with_reducible refine cD ?_))) | (repeat (first | exact (cB HR417.out HB.out) | (with_reducible refine cA ?_ _) | (with_reducible refine cN ?_ _) | (with_reducible refine cD ?_)))); (case aB => exact (zB_ HB)); (case aF => exact (fun _ _ => trivial)); (case aO => exact (zR_ HO416)); (case aS => exact (bZ (zB_ HB))); (case aL => have := LMc20.out; have hlx_ := (show (l0.take (x3_1 : Int).toNat).length = x3_1.toNat from (by rw [List.length_take]; have h_ : (x3_1 : Int) ≤ (l0.length : Int) := zd; omega)); omega); intro v419 w25 ho hb hg hat; rw [← Ny418.out] at ho; have n0_ := A0_ (hb); have n1_ := A0_ (ho); clear HB HO416; have HB := n0_; have HO420 := n1_; clear n0_ n1_ ho hb hg hat; have p421 : 0 ≤ (x4_2 : Int) := zd; have q421 : x4_2 < (l0.length : Int) := zd; obtain ⟨ad421, e421, hx421_0⟩ := tI HR0.out x4_2 p421 q421; obtain rfl : ad412 = ad421 := (by injection e421); try replace hx421_0 := (HB.out.cell (wL w _ hx421_0)).trans hx421_0; replace p421 := eq_true p421; replace q421 := eq_true q421) | ((with_reducible refine gB (b := .append) (xs := #[.tmp 48, .tmp 53]) rfl ?_); at_builtin; refine Kd.R_append (Kd.int .i64) (w0 := w) w.heap.size rfl (.tmp 48) (.tmp 53) 23 3 (.int .i64 0) 8 rfl Try.underlying23 info3 rfl (by decide) (by omega) v419 y418 (rd l0 x4_2) [.int .i64 (rd l0 x4_2)] (fun _ => True) (fun _ => False) rfl rfl ?aP (fun _ hk => hk.elim) ?aF ?aO ?aB ?aS ?aL ?_; (case aP => exact rfl); (case aB => exact (zB_ HB)); (case aF => exact (fun _ _ => trivial)); (case aO => exact (zR_ HO420)); (case aS => exact (bZ (zB_ HB))); (case aL => have := LMc21.out; omega); intro v423 w26 ho hb hg hat; rw [← Ny422.out] at ho; have n0_ := A0_ (hb); have n1_ := A0_ (ho); clear HB HO420; have HB := n0_; have HO424 := n1_; clear n0_ n1_ ho hb hg hat)))
            (try generalize Value.pointer (some (ad412.add (x4_2 : Int).toNat)) = pz_)
            (try generalize Value.pointer (some (ad413.add (x3_1 : Int).toNat)) = pz_)
            go_loopg [5, 6] k2 (fun kq v5 v6 w' => ∃ (x5_3 : List Int) (x6_3 : Int), v6 = .int .i64 x6_3 ∧ Aside0 (spec_l3Next.l2 kq l0 x3_1 x4_2 x5_3 x6_3 = some r) ∧ Aside0 (kq ≤ k2) ∧ Aside0 (Kd.R (Kd.int .i64) 3 w' w.heap.size (fun _ => True) v5 x5_3) ∧ Aside0 (Below w.heap.size w w'))
            case atStart => exact ⟨(y422), (wrap64 ((l0.length : Int) - 1)), zt, H', ⟨Nat.le_refl _⟩, ⟨zR_ HO424⟩, ⟨zB_ HB⟩⟩
            case round =>
             clear H'; (try clear c1); (try clear c2); (try clear p2); (try clear c3); (try clear c3b0); (try clear c4); (try clear c4b0); (try clear p4); (try clear q4); (try clear hx4); (try clear c5); (try clear c5b0); (try clear p6); (try clear c7); (try clear c7b0); (try clear c8); (try clear c8b0); (try clear c9); (try clear c9b0); (try clear c10); (try clear c10b0); (try clear c13); (try clear c13b0); (try clear c14); (try clear c14b0); (try clear c15); (try clear c15b0); (try clear c16); (try clear c16b0); (try clear c17); (try clear c17b0); (try clear c18); (try clear c18b0); (try clear c19); (try clear c19b0); (try clear c19b1); (try clear c20); (try clear c21); (try clear hx407_0); (try clear hx408_0); (try clear hx412_0); (try clear hx413_0); (try clear hx421_0); (try clear p2); (try clear p4); (try clear p407); (try clear p408); (try clear p412); (try clear p413); (try clear p421); (try clear p6); (try clear q4); (try clear q407); (try clear q408); (try clear q412); (try clear q413); (try clear q421); obtain ⟨x5_3, x6_3, rfl, HA, HK3, HO_5, HB⟩ := hrel
             cases gk with
             | zero => exact absurd HA.out (by simp [spec_l3Next.l2])
             | succ k3 =>
              have H := HA.out; clear HA; simp only [spec_l3Next.l2] at H
              by_cases c27 : x6_3 > x3_1
              ·rw [if_pos c27] at H
               have c27b0 : decide (x3_1 < x6_3) = true := dT c27
               clear c27
               by_cases c28 : x6_3 = x4_2
               ·rw [if_pos c28] at H
                have c28b0 : (x6_3 == x4_2) = true := beq_iff_eq.mpr c28
                have c28b1 : (x6_3 != x4_2) = false := bne_eq_false_iff_eq.mpr c28
                clear c28
                by_cases c29 : 0 ≤ x3_1
                ·rw [if_pos c29] at H
                 have c29b0 := dT c29; clear c29
                 by_cases c30 : x3_1 < (l0.length : Int)
                 ·rw [if_pos c30] at H
                  have c30b0 := dT c30; clear c30
                  by_cases c31 : x5_3.length < 17592186044416
                  ·rw [if_pos c31] at H
                   have LMc31 := A0_ c31; clear c31
                   obtain ⟨y426, hy426⟩ : ∃ y_ : List Int, y_ = (x5_3 ++ [rd l0 x3_1]) := ⟨_, rfl⟩
                   replace H : (spec_l3Next.l2 k3 l0 x3_1 x4_2 y426 (wrap64 (x6_3 - 1))) = some r := zH hy426 H
                   have Ny426 := A0_ hy426; clear hy426; have H' := A0_ H; clear H
                   have p425 : 0 ≤ (x3_1 : Int) := zd
                   have q425 : x3_1 < (l0.length : Int) := zd
                   obtain ⟨ad425, e425, hx425_0⟩ := tI HR0.out x3_1 p425 q425
                   obtain rfl : ad412 = ad425 := (by injection e425)
                   try replace hx425_0 := (HB.out.cell (wL w _ hx425_0)).trans hx425_0
                   replace p425 := eq_true p425; replace q425 := eq_true q425
                   go_wp2_with (first | ((with_reducible refine gB (b := .append) (xs := #[.tmp 66, .tmp 71]) rfl ?_); at_builtin; refine Kd.R_append (Kd.int .i64) (w0 := w) w.heap.size rfl (.tmp 66) (.tmp 71) 23 3 (.int .i64 0) 8 rfl Try.underlying23 info3 rfl (by decide) (by omega) u5 x5_3 (rd l0 x3_1) [.int .i64 (rd l0 x3_1)] (fun _ => True) (fun _ => False) rfl rfl ?aP (fun _ hk => hk.elim) ?aF ?aO ?aB ?aS ?aL ?_; (case aP => exact rfl); (case aB => exact (zB_ HB)); (case aF => exact (fun _ _ => trivial)); (case aO => exact (zR_ HO_5)); (case aS => exact (bZ (zB_ HB))); (case aL => have := LMc31.out; omega); intro v427 w32 ho hb hg hat; rw [← Ny426.out] at ho; replace HB := A0_ (hb); have HO428 := A0_ (ho); clear HO_5 ho hb hg hat))
                   repeat (go_quiet (first | ((with_reducible refine gB (b := .append) (xs := #[.tmp 66, .tmp 71]) rfl ?_); at_builtin; refine Kd.R_append (Kd.int .i64) (w0 := w) w.heap.size rfl (.tmp 66) (.tmp 71) 23 3 (.int .i64 0) 8 rfl Try.underlying23 info3 rfl (by decide) (by omega) u5 x5_3 (rd l0 x3_1) [.int .i64 (rd l0 x3_1)] (fun _ => True) (fun _ => False) rfl rfl ?aP (fun _ hk => hk.elim) ?aF ?aO ?aB ?aS ?aL ?_; (case aP => exact rfl); (case aB => exact (zB_ HB)); (case aF => exact (fun _ _ => trivial)); (case aO => exact (zR_ HO_5)); (case aS => exact (bZ (zB_ HB))); (case aL => have := LMc31.out; omega); intro v427 w32 ho hb hg hat; rw [← Ny426.out] at ho; replace HB := A0_ (hb); have HO428 := A0_ (ho); clear HO_5 ho hb hg hat)); try go_wp2_with (first | ((with_reducible refine gB (b := .append) (xs := #[.tmp 66, .tmp 71]) rfl ?_); at_builtin; refine Kd.R_append (Kd.int .i64) (w0 := w) w.heap.size rfl (.tmp 66) (.tmp 71) 23 3 (.int .i64 0) 8 rfl Try.underlying23 info3 rfl (by decide) (by omega) u5 x5_3 (rd l0 x3_1) [.int .i64 (rd l0 x3_1)] (fun _ => True) (fun _ => False) rfl rfl ?aP (fun _ hk => hk.elim) ?aF ?aO ?aB ?aS ?aL ?_; (case aP => exact rfl); (case aB => exact (zB_ HB)); (case aF => exact (fun _ _ => trivial)); (case aO => exact (zR_ HO_5)); (case aS => exact (bZ (zB_ HB))); (case aL => have := LMc31.out; omega); intro v427 w32 ho hb hg hat; rw [← Ny426.out] at ho; have n0_ := A0_ (hb); have n1_ := A0_ (ho); clear HB HO_5; have HB := n0_; have HO428 := n1_; clear n0_ n1_ ho hb hg hat)))
                   go_roundg k3
                   case measure => have := HJ1.out; have := HK2.out; have := HK3.out; omega
                   case rel => exact ⟨(y426), (wrap64 (x6_3 - 1)), zt, H', ⟨by have := HJ1.out; have := HK2.out; have := HK3.out; omega⟩, ⟨zR_ HO428⟩, ⟨zB_ HB⟩⟩
                  rw [if_neg c31] at H
                  exact absurd H (by simp)
                 rw [if_neg c30] at H
                 exact absurd H (by simp)
                rw [if_neg c29] at H
                exact absurd H (by simp)
               rw [if_neg c28] at H
               have c28b0 : (x6_3 == x4_2) = false := beq_eq_false_iff_ne.mpr c28
               have c28b1 : (x6_3 != x4_2) = true := bne_iff_ne.mpr c28
               by_cases c33 : 0 ≤ x6_3
               ·rw [if_pos c33] at H
                have c33b0 := dT c33; clear c33
                by_cases c34 : x6_3 < (l0.length : Int)
                ·rw [if_pos c34] at H
                 have c34b0 := dT c34; clear c34
                 by_cases c35 : x5_3.length < 17592186044416
                 ·rw [if_pos c35] at H
                  have LMc35 := A0_ c35; clear c35
                  obtain ⟨y430, hy430⟩ : ∃ y_ : List Int, y_ = (x5_3 ++ [rd l0 x6_3]) := ⟨_, rfl⟩
                  replace H : (spec_l3Next.l2 k3 l0 x3_1 x4_2 y430 (wrap64 (x6_3 - 1))) = some r := zH hy430 H
                  have Ny430 := A0_ hy430; clear hy430; have H' := A0_ H; clear H
                  have p429 : 0 ≤ (x6_3 : Int) := zd
                  have q429 : x6_3 < (l0.length : Int) := zd
                  obtain ⟨ad429, e429, hx429_0⟩ := tI HR0.out x6_3 p429 q429
                  obtain rfl : ad412 = ad429 := (by injection e429)
                  try replace hx429_0 := (HB.out.cell (wL w _ hx429_0)).trans hx429_0
                  replace p429 := eq_true p429; replace q429 := eq_true q429
                  go_wp2_with (first | ((with_reducible refine gB (b := .append) (xs := #[.tmp 73, .tmp 78]) rfl ?_); at_builtin; refine Kd.R_append (Kd.int .i64) (w0 := w) w.heap.size rfl (.tmp 73) (.tmp 78) 23 3 (.int .i64 0) 8 rfl Try.underlying23 info3 rfl (by decide) (by omega) u5 x5_3 (rd l0 x6_3) [.int .i64 (rd l0 x6_3)] (fun _ => True) (fun _ => False) rfl rfl ?aP (fun _ hk => hk.elim) ?aF ?aO ?aB ?aS ?aL ?_; (case aP => exact rfl); (case aB => exact (zB_ HB)); (case aF => exact (fun _ _ => trivial)); (case aO => exact (zR_ HO_5)); (case aS => exact (bZ (zB_ HB))); (case aL => have := LMc35.out; omega); intro v431 w36 ho hb hg hat; rw [← Ny430.out] at ho; replace HB := A0_ (hb); have HO432 := A0_ (ho); clear HO_5 ho hb hg hat))
                  repeat (go_quiet (first | ((with_reducible refine gB (b := .append) (xs := #[.tmp 73, .tmp 78]) rfl ?_); at_builtin; refine Kd.R_append (Kd.int .i64) (w0 := w) w.heap.size rfl (.tmp 73) (.tmp 78) 23 3 (.int .i64 0) 8 rfl Try.underlying23 info3 rfl (by decide) (by omega) u5 x5_3 (rd l0 x6_3) [.int .i64 (rd l0 x6_3)] (fun _ => True) (fun _ => False) rfl rfl ?aP (fun _ hk => hk.elim) ?aF ?aO ?aB ?aS ?aL ?_; (case aP => exact rfl); (case aB => exact (zB_ HB)); (case aF => exact (fun _ _ => trivial)); (case aO => exact (zR_ HO_5)); (case aS => exact (bZ (zB_ HB))); (case aL => have := LMc35.out; omega); intro v431 w36 ho hb hg hat; rw [← Ny430.out] at ho; replace HB := A0_ (hb); have HO432 := A0_ (ho); clear HO_5 ho hb hg hat)); try go_wp2_with (first | ((with_reducible refine gB (b := .append) (xs := #[.tmp 73, .tmp 78]) rfl ?_); at_builtin; refine Kd.R_append (Kd.int .i64) (w0 := w) w.heap.size rfl (.tmp 73) (.tmp 78) 23 3 (.int .i64 0) 8 rfl Try.underlying23 info3 rfl (by decide) (by omega) u5 x5_3 (rd l0 x6_3) [.int .i64 (rd l0 x6_3)] (fun _ => True) (fun _ => False) rfl rfl ?aP (fun _ hk => hk.elim) ?aF ?aO ?aB ?aS ?aL ?_; (case aP => exact rfl); (case aB => exact (zB_ HB)); (case aF => exact (fun _ _ => trivial)); (case aO => exact (zR_ HO_5)); (case aS => exact (bZ (zB_ HB))); (case aL => have := LMc35.out; omega); intro v431 w36 ho hb hg hat; rw [← Ny430.out] at ho; have n0_ := A0_ (hb); have n1_ := A0_ (ho); clear HB HO_5; have HB := n0_; have HO432 := n1_; clear n0_ n1_ ho hb hg hat)))
                  go_roundg k3
                  case measure => have := HJ1.out; have := HK2.out; have := HK3.out; omega
                  case rel => exact ⟨(y430), (wrap64 (x6_3 - 1)), zt, H', ⟨by have := HJ1.out; have := HK2.out; have := HK3.out; omega⟩, ⟨zR_ HO432⟩, ⟨zB_ HB⟩⟩
                 rw [if_neg c35] at H
                 exact absurd H (by simp)
                rw [if_neg c34] at H
                exact absurd H (by simp)
               rw [if_neg c33] at H
               exact absurd H (by simp)
              rw [if_neg c27] at H
              have c27b0 : decide (x3_1 < x6_3) = false := dF c27
              clear c27; obtain rfl := sI H
              go_wp2
              repeat (go_quiet (fail); try go_wp2)
              go_ret
              exact ⟨_, by first | rfl | (simp [*] <;> rfl), zR_ HO_5, zB_ HB⟩
           rw [if_neg c21] at H
           exact absurd H (by simp)
          rw [if_neg c20] at H
          exact absurd H (by simp)
         rw [if_neg c19] at H
         exact absurd H (by simp)
        rw [if_neg c16] at H
        exact absurd H (by simp)
       rw [if_neg c15] at H
       exact absurd H (by simp)
      rw [if_neg c14] at H
      exact absurd H (by simp)
     rw [if_neg c13] at H
     exact absurd H (by simp)

/-! ### spec_l2Order: function 81 -/
def spec_l2Order.l0 : Nat → List Int → List Int → Int → Option (Int)
  | 0, _, _, _ => none
  | k + 1, x0, x1, x5 => if x5 < (x0.length : Int) then (if 0 ≤ x5 then (if x5 < (x1.length : Int) then (if (rd x0 x5) < (rd x1 x5) then (some (-1)) else (if (rd x0 x5) > (rd x1 x5) then (some 1) else (spec_l2Order.l0 k x0 x1 (wrap64 (x5 + 1))))) else (none)) else (none)) else (some 0)
def spec_l2Order.f (k : Nat) (l0 : List Int) (l1 : List Int) : Option (Int) := spec_l2Order.l0 k l0 l1 0
set_option maxHeartbeats 8000000 in
set_option maxRecDepth 100000 in
theorem spec_l2Order.calls (k : Nat) (A0 : Option Addr) (c0 : Nat) (l0 : List Int) (A1 : Option Addr) (c1 : Nat) (l1 : List Int) (r : Int) (w : World) (hr0 : Kd.C (Kd.int .i64) w A0 l0.length l0) (hc0 : l0.length ≤ c0) (hr1 : Kd.C (Kd.int .i64) w A1 l1.length l1) (hc1 : l1.length ≤ c1) (h : spec_l2Order.f k l0 l1 = some r) :
    Calls Try.prog 81 #[.slice A0 l0.length c0, .slice A1 l1.length c1] w fun e w' => e = .returned (.int .i64 r) ∧ Drawn0 w w' := by
 have HR0 := A0_ hr0; have HC0 := A0_ hc0; clear hr0 hc0; have HR1 := A0_ hr1; have HC1 := A0_ hc1; clear hr1 hc1
 have H : (spec_l2Order.l0 k l0 l1 0) = some r := h
 clear h; have H' := A0_ H; clear H
 go_enter Try.func81, Try.ntmps81
 go_wp2
 repeat (go_quiet (fail); try go_wp2)
 go_loopg [5] k (fun kq v5 w' => ∃ (x5_1 : Int), v5 = .int .i64 x5_1 ∧ Aside0 (spec_l2Order.l0 kq l0 l1 x5_1 = some r) ∧ Aside0 (kq ≤ k) ∧ Drawn0 w w')
 case atStart => exact ⟨(0), zt, H', ⟨Nat.le_refl _⟩, by repeat (first | exact Drawn0.refl _ | apply Drawn0.step)⟩
 case round =>
  clear H'; (try clear c1); (try clear p2); obtain ⟨x5_1, rfl, HA, HK1, ⟨m1, rfl⟩⟩ := hrel
  cases gk with
  | zero => exact absurd HA.out (by simp [spec_l2Order.l0])
  | succ k1 =>
   have H := HA.out; clear HA; simp only [spec_l2Order.l0] at H
   by_cases c3 : x5_1 < (l0.length : Int)
   ·rw [if_pos c3] at H
    have c3b0 := dT c3; clear c3
    by_cases c4 : 0 ≤ x5_1
    ·rw [if_pos c4] at H
     have c4b0 := dT c4; clear c4
     by_cases c5 : x5_1 < (l1.length : Int)
     ·rw [if_pos c5] at H
      have c5b0 := dT c5; clear c5
      by_cases c6 : (rd l0 x5_1) < (rd l1 x5_1)
      ·rw [if_pos c6] at H
       have c6b0 := dT c6; clear c6; obtain rfl := sI H
       have p433 : 0 ≤ (x5_1 : Int) := zd
       have q433 : x5_1 < (l0.length : Int) := zd
       obtain ⟨ad433, e433, hx433_0⟩ := tI HR0.out x5_1 p433 q433
       cases e433
       replace p433 := eq_true p433; replace q433 := eq_true q433
       have p434 : 0 ≤ (x5_1 : Int) := zd
       have q434 : x5_1 < (l1.length : Int) := zd
       obtain ⟨ad434, e434, hx434_0⟩ := tI HR1.out x5_1 p434 q434
       cases e434
       replace p434 := eq_true p434; replace q434 := eq_true q434
       go_wp2
       repeat (go_quiet (fail); try go_wp2)
       go_ret
       exact ⟨by first | rfl | (simp; done) | (simp [*]; done), by repeat (first | exact Drawn0.refl _ | apply Drawn0.step)⟩
      rw [if_neg c6] at H; have c6b0 := dF c6; clear c6
      by_cases c7 : (rd l0 x5_1) > (rd l1 x5_1)
      ·rw [if_pos c7] at H
       have c7b0 : decide ((rd l1 x5_1) < (rd l0 x5_1)) = true := dT c7
       clear c7; obtain rfl := sI H
       have p433 : 0 ≤ (x5_1 : Int) := zd
       have q433 : x5_1 < (l0.length : Int) := zd
       obtain ⟨ad433, e433, hx433_0⟩ := tI HR0.out x5_1 p433 q433
       cases e433
       replace p433 := eq_true p433; replace q433 := eq_true q433
       have p434 : 0 ≤ (x5_1 : Int) := zd
       have q434 : x5_1 < (l1.length : Int) := zd
       obtain ⟨ad434, e434, hx434_0⟩ := tI HR1.out x5_1 p434 q434
       cases e434
       replace p434 := eq_true p434; replace q434 := eq_true q434
       have p435 : 0 ≤ (x5_1 : Int) := zd
       have q435 : x5_1 < (l0.length : Int) := zd
       obtain ⟨ad435, e435, hx435_0⟩ := tI HR0.out x5_1 p435 q435
       obtain rfl : ad433 = ad435 := (by injection e435)
       replace p435 := eq_true p435; replace q435 := eq_true q435
       have p436 : 0 ≤ (x5_1 : Int) := zd
       have q436 : x5_1 < (l1.length : Int) := zd
       obtain ⟨ad436, e436, hx436_0⟩ := tI HR1.out x5_1 p436 q436
       obtain rfl : ad434 = ad436 := (by injection e436)
       replace p436 := eq_true p436; replace q436 := eq_true q436
       go_wp2
       repeat (go_quiet (fail); try go_wp2)
       go_ret
       exact ⟨by first | rfl | (simp; done) | (simp [*]; done), by repeat (first | exact Drawn0.refl _ | apply Drawn0.step)⟩
      rw [if_neg c7] at H
      have c7b0 : decide ((rd l1 x5_1) < (rd l0 x5_1)) = false := dF c7
      clear c7; have H' := A0_ H; clear H
      have p433 : 0 ≤ (x5_1 : Int) := zd
      have q433 : x5_1 < (l0.length : Int) := zd
      obtain ⟨ad433, e433, hx433_0⟩ := tI HR0.out x5_1 p433 q433
      cases e433
      replace p433 := eq_true p433; replace q433 := eq_true q433
      have p434 : 0 ≤ (x5_1 : Int) := zd
      have q434 : x5_1 < (l1.length : Int) := zd
      obtain ⟨ad434, e434, hx434_0⟩ := tI HR1.out x5_1 p434 q434
      cases e434
      replace p434 := eq_true p434; replace q434 := eq_true q434
      have p435 : 0 ≤ (x5_1 : Int) := zd
      have q435 : x5_1 < (l0.length : Int) := zd
      obtain ⟨ad435, e435, hx435_0⟩ := tI HR0.out x5_1 p435 q435
      obtain rfl : ad433 = ad435 := (by injection e435)
      replace p435 := eq_true p435; replace q435 := eq_true q435
      have p436 : 0 ≤ (x5_1 : Int) := zd
      have q436 : x5_1 < (l1.length : Int) := zd
      obtain ⟨ad436, e436, hx436_0⟩ := tI HR1.out x5_1 p436 q436
      obtain rfl : ad434 = ad436 := (by injection e436)
      replace p436 := eq_true p436; replace q436 := eq_true q436
      go_wp2
      repeat (go_quiet (fail); try go_wp2)
      go_roundg k1
      case measure => have := HK1.out; omega
      case rel => exact ⟨(wrap64 (x5_1 + 1)), zt, H', ⟨by have := HK1.out; omega⟩, by repeat (first | exact Drawn0.refl _ | apply Drawn0.step)⟩
     rw [if_neg c5] at H
     exact absurd H (by simp)
    rw [if_neg c4] at H
    exact absurd H (by simp)
   rw [if_neg c3] at H; have c3b0 := dF c3; clear c3; obtain rfl := sI H
   go_wp2
   repeat (go_quiet (fail); try go_wp2)
   go_ret
   exact ⟨by first | rfl | (simp; done) | (simp [*]; done), by repeat (first | exact Drawn0.refl _ | apply Drawn0.step)⟩

/-! ### spec_l1Mul: function 82 -/
def spec_l1Mul.l0 : Nat → List Int → List Int → List Int → Int → Option (List Int)
  | 0, _, _, _, _ => none
  | k + 1, x0, x1, x5, x6 => if x6 < (x0.length : Int) then (if 0 ≤ x6 then (if 0 ≤ (rd x0 x6) then (if (rd x0 x6) < (x1.length : Int) then (if x5.length < 17592186044416 then (spec_l1Mul.l0 k x0 x1 (x5 ++ [rd x1 (rd x0 x6)]) (wrap64 (x6 + 1))) else (none)) else (none)) else (none)) else (none)) else (some x5)
def spec_l1Mul.f (k : Nat) (l0 : List Int) (l1 : List Int) : Option (List Int) := spec_l1Mul.l0 k l0 l1 (([] : List Int)) 0
set_option maxHeartbeats 8000000 in
set_option maxRecDepth 100000 in
theorem spec_l1Mul.calls (k : Nat) (A0 : Option Addr) (c0 : Nat) (l0 : List Int) (A1 : Option Addr) (c1 : Nat) (l1 : List Int) (r : List Int) (w : World) (hr0 : Kd.C (Kd.int .i64) w A0 l0.length l0) (hc0 : l0.length ≤ c0) (hr1 : Kd.C (Kd.int .i64) w A1 l1.length l1) (hc1 : l1.length ≤ c1) (h : spec_l1Mul.f k l0 l1 = some r) :
    Calls Try.prog 82 #[.slice A0 l0.length c0, .slice A1 l1.length c1] w fun e w' => ∃ v0_ : Value, e = .returned (v0_) ∧ Kd.R (Kd.int .i64) 3 w' w.heap.size (fun _ => True) v0_ r ∧ Below w.heap.size w w' := by
 have HR0 := A0_ hr0; have HC0 := A0_ hc0; clear hr0 hc0; have HR1 := A0_ hr1; have HC1 := A0_ hc1; clear hr1 hc1
 have HB := A0_ (Below.refl w.heap.size w)
 have H : (spec_l1Mul.l0 k l0 l1 (([] : List Int)) 0) = some r := h
 clear h
 obtain ⟨y437, hy437⟩ : ∃ y_ : List Int, y_ = (([] : List Int)) := ⟨_, rfl⟩
 replace H : (spec_l1Mul.l0 k l0 l1 y437 0) = some r := zH hy437 H
 have Ny437 := A0_ hy437; clear hy437; have H' := A0_ H; clear H
 go_enter Try.func82, Try.ntmps82
 go_wp2_with (first | ((with_reducible refine gD (N := 7) rfl ?_); refine Kd.R_lit (Kd.int .i64) _ 3 ?hg (N := 7) ?hd (xs := ([] : List Int)) (inner := []) (ok := fun _ => True) (okp := fun _ => True) ?hr ?hp (fun _ hk => hk) trivial (Below.refl _ _) (Nat.le_refl _) (by simp) ?_; (case hd => rfl); (case hg => rfl); (case hr => first | (go_simp; done) | (go_simp; rfl)); (case hp => exact (Reps.none _ _)); intro v438 w3 ho4 hb hg_ hnew_; clear hg_ hnew_; (first | rw [← Ny437.out] at ho4 | (simp only [Int.reduceToNat] at ho4; rw [← Ny437.out] at ho4)); have HO439 := A0_ (rL ho4 (bZ (zB_ HB))); replace HB := zB HB hb; clear hb ho4))
 go_loopg [5, 6] k (fun kq v5 v6 w' => ∃ (x5_1 : List Int) (x6_1 : Int), v6 = .int .i64 x6_1 ∧ Aside0 (spec_l1Mul.l0 kq l0 l1 x5_1 x6_1 = some r) ∧ Aside0 (kq ≤ k) ∧ Aside0 (Kd.R (Kd.int .i64) 3 w' w.heap.size (fun _ => True) v5 x5_1) ∧ Aside0 (Below w.heap.size w w'))
 case atStart => exact ⟨(y437), (0), zt, H', ⟨Nat.le_refl _⟩, ⟨zR_ HO439⟩, ⟨zB_ HB⟩⟩
 case round =>
  clear H'; (try clear c1); (try clear p2); obtain ⟨x5_1, x6_1, rfl, HA, HK1, HO_5, HB⟩ := hrel
  cases gk with
  | zero => exact absurd HA.out (by simp [spec_l1Mul.l0])
  | succ k1 =>
   have H := HA.out; clear HA; simp only [spec_l1Mul.l0] at H
   by_cases c5 : x6_1 < (l0.length : Int)
   ·rw [if_pos c5] at H
    have c5b0 := dT c5; clear c5
    by_cases c6 : 0 ≤ x6_1
    ·rw [if_pos c6] at H
     have c6b0 := dT c6; clear c6
     by_cases c7 : 0 ≤ (rd l0 x6_1)
     ·rw [if_pos c7] at H
      have c7b0 := dT c7; clear c7
      by_cases c8 : (rd l0 x6_1) < (l1.length : Int)
      ·rw [if_pos c8] at H
       have c8b0 := dT c8; clear c8
       by_cases c9 : x5_1.length < 17592186044416
       ·rw [if_pos c9] at H
        have LMc9 := A0_ c9; clear c9
        obtain ⟨y442, hy442⟩ : ∃ y_ : List Int, y_ = (x5_1 ++ [rd l1 (rd l0 x6_1)]) := ⟨_, rfl⟩
        replace H : (spec_l1Mul.l0 k1 l0 l1 y442 (wrap64 (x6_1 + 1))) = some r := zH hy442 H
        have Ny442 := A0_ hy442; clear hy442; have H' := A0_ H; clear H
        have p440 : 0 ≤ (x6_1 : Int) := zd
        have q440 : x6_1 < (l0.length : Int) := zd
        obtain ⟨ad440, e440, hx440_0⟩ := tI HR0.out x6_1 p440 q440
        cases e440
        try replace hx440_0 := (HB.out.cell (wL w _ hx440_0)).trans hx440_0
        replace p440 := eq_true p440; replace q440 := eq_true q440
        have p441 : 0 ≤ ((rd l0 x6_1) : Int) := zd
        have q441 : (rd l0 x6_1) < (l1.length : Int) := zd
        obtain ⟨ad441, e441, hx441_0⟩ := tI HR1.out (rd l0 x6_1) p441 q441
        cases e441
        try replace hx441_0 := (HB.out.cell (wL w _ hx441_0)).trans hx441_0
        replace p441 := eq_true p441; replace q441 := eq_true q441
        go_wp2_with (first | ((with_reducible refine gB (b := .append) (xs := #[.tmp 14, .tmp 22]) rfl ?_); at_builtin; refine Kd.R_append (Kd.int .i64) (w0 := w) w.heap.size rfl (.tmp 14) (.tmp 22) 23 3 (.int .i64 0) 8 rfl Try.underlying23 info3 rfl (by decide) (by omega) u5 x5_1 (rd l1 (rd l0 x6_1)) [.int .i64 (rd l1 (rd l0 x6_1))] (fun _ => True) (fun _ => False) rfl rfl ?aP (fun _ hk => hk.elim) ?aF ?aO ?aB ?aS ?aL ?_; (case aP => exact rfl); (case aB => exact (zB_ HB)); (case aF => exact (fun _ _ => trivial)); (case aO => exact (zR_ HO_5)); (case aS => exact (bZ (zB_ HB))); (case aL => have := LMc9.out; omega); intro v443 w10 ho hb hg hat; rw [← Ny442.out] at ho; replace HB := A0_ (hb); have HO444 := A0_ (ho); clear HO_5 ho hb hg hat))
        go_roundg k1
        case measure => have := HK1.out; omega
        case rel => exact ⟨(y442), (wrap64 (x6_1 + 1)), zt, H', ⟨by have := HK1.out; omega⟩, ⟨zR_ HO444⟩, ⟨zB_ HB⟩⟩
       rw [if_neg c9] at H
       exact absurd H (by simp)
      rw [if_neg c8] at H
      exact absurd H (by simp)
     rw [if_neg c7] at H
     exact absurd H (by simp)
    rw [if_neg c6] at H
    exact absurd H (by simp)
   rw [if_neg c5] at H; have c5b0 := dF c5; clear c5; obtain rfl := sI H
   go_wp2
   go_ret
   exact ⟨_, by first | rfl | (simp [*] <;> rfl), zR_ HO_5, zB_ HB⟩

end Go.Proofs.Ytmegggomhjgehaa.PFnDeck
