-- Made by a program of this session (wip/tools) out of the loaded program; not trusted: Lean checks it.
import Derived.Test.YtjebcgbmlbemcaaGreatDoorXE
import Derived.Test.YtjebcgbmlbemcaaGreatDoorXC
import Derived.Test.YtjebcgbmlbemcaaGreatDoorPFnExecuteTuttex0
import Derived.Test.YtjebcgbmlbemcaaGreatDoorPFnExecuteTuttex4
import Derived.Test.YtjebcgbmlbemcaaGreatDoorPFnExecuteTuttex8
-- packed
namespace Go.Proofs.YtjebcgbmlbemcaaGreatDoor.PFnExecuteTutte
open Go.RowKit Go.Proofs.YtjebcgbmlbemcaaGreatDoorW.PrintWords Go.Proofs.YtjebcgbmlbemcaaGreatDoorW.PrintLast Go.Proofs.YtjebcgbmlbemcaaGreatDoorW.PrintMore
attribute [local go_sem] max2_int min2_int max_two min_two max_three min_three max_four min_four   -- for this text's walks alone
set_option linter.unusedVariables false
set_option linter.unusedSimpArgs false

/-! ### strconv_Atoi: function 103 -/
def strconv_Atoi.f (a0 : ByteArray) : Option (Int × Option Int) := if a0.size ≤ 18 then (Lib.atoi a0.data.toList).bind fun n => some (n, none) else none
theorem strconv_Atoi.calls (a0 : ByteArray) (r1 : Int) (r2 : Option Int) (w : World) (h : strconv_Atoi.f a0 = some (r1, r2)) : Calls Tryz.prog 103 #[.string a0] w fun e w' => e = .returned (.tuple #[.int .i64 r1, errW r2]) ∧ Below w.heap.size w w' := by
  unfold strconv_Atoi.f at h
  split at h
  · rename_i hs
    obtain ⟨n, h1, h⟩ := Option.bind_eq_some_iff.1 h
    simp only [Option.some.injEq, Prod.mk.injEq] at h
    obtain ⟨rfl, rfl⟩ := h
    exact XS.atoi_ok a0 _ hs h1 w
  cases h


/-! ### impl_PermFrom: function 66 -/
mutual
def impl_PermFrom.j0 : Nat → Int → ByteArray → Bool → Option (List Int × Bool)
  | 0, _, _, _ => none
  | k + 1, x0, x1, x25 => if x25 = true then (some (([] : List Int), false)) else ((impl_still.f k x0).bind fun t349 => (impl_PermFrom.l0 k x0 x1 t349 x1))
def impl_PermFrom.l0 : Nat → Int → ByteArray → List Int → ByteArray → Option (List Int × Bool)
  | 0, _, _, _, _ => none
  | k + 1, x0, x1, x6, x7 => if x7.toList = ([] : List UInt8) then (impl_PermFrom.j2 k x0 x1 x6 x7 false) else (impl_PermFrom.j2 k x0 x1 x6 x7 (x1.toList != ([40, 41] : List UInt8)))
def impl_PermFrom.j2 : Nat → Int → ByteArray → List Int → ByteArray → Bool → Option (List Int × Bool)
  | 0, _, _, _, _, _ => none
  | k + 1, x0, x1, x6, x7, x34 => if x34 = true then ((strings_CutPrefix.f x7 (⟨#[40]⟩ : ByteArray)).bind fun bt353 => ((strings_Cut.f bt353.1 (⟨#[41]⟩ : ByteArray)).bind fun bt355 => (if bt353.2 = true then (impl_PermFrom.j3 k x0 x1 x6 bt355.1 bt355.2.1 (!bt355.2.2)) else (impl_PermFrom.j3 k x0 x1 x6 bt355.1 bt355.2.1 true)))) else ((impl_PermText.f k x6).bind fun t352 => (if t352.toList = x1.toList then (some (x6, true)) else (some (([] : List Int), false))))
def impl_PermFrom.j3 : Nat → Int → ByteArray → List Int → ByteArray → ByteArray → Bool → Option (List Int × Bool)
  | 0, _, _, _, _, _, _ => none
  | k + 1, x0, x1, x6, x10, x11, x51 => if x51 = true then (some (([] : List Int), false)) else ((strings_Split.f x10 (⟨#[44]⟩ : ByteArray)).bind fun t361 => (impl_PermFrom.l1 k x0 x1 x6 x11 (([] : List Int)) t361 (t361.length : Int) 0))
def impl_PermFrom.l1 : Nat → Int → ByteArray → List Int → ByteArray → List Int → List ByteArray → Int → Int → Option (List Int × Bool)
  | 0, _, _, _, _, _, _, _, _ => none
  | k + 1, x0, x1, x6, x11, x13, x54, x55, x56 => if x56 < x55 then (if 0 ≤ x56 then (if x56 < (x54.length : Int) then ((strconv_Atoi.f (rdOf ByteArray.empty x54 x56)).bind fun bt365 => (if bt365.2.isNone = true then (if bt365.1 < 0 then (some (([] : List Int), false)) else (if bt365.1 ≥ x0 then (some (([] : List Int), false)) else (if x13.length < 17592186044416 then (impl_PermFrom.l1 k x0 x1 x6 x11 (x13 ++ [bt365.1]) x54 x55 (wrap64 (x56 + 1))) else (none)))) else (some (([] : List Int), false)))) else (none)) else (none)) else (impl_PermFrom.l2 k x0 x1 x6 x11 x13 x13 (x13.length : Int) 0)
def impl_PermFrom.l2 : Nat → Int → ByteArray → List Int → ByteArray → List Int → List Int → Int → Int → Option (List Int × Bool)
  | 0, _, _, _, _, _, _, _, _ => none
  | k + 1, x0, x1, x6, x11, x13, x81, x82, x83 => if x83 < x82 then (if 0 ≤ x83 then (if x83 < (x81.length : Int) then (if (x13.length : Int) = 0 then (none) else (if 0 ≤ (Int.tmod (wrap64 (x83 + 1)) (x13.length : Int)) then (if (Int.tmod (wrap64 (x83 + 1)) (x13.length : Int)) < (x13.length : Int) then (if 0 ≤ (rd x81 x83) then (if (rd x81 x83) < (x6.length : Int) then (impl_PermFrom.l2 k x0 x1 (x6.set ((rd x81 x83) : Int).toNat (rd x13 (Int.tmod (wrap64 (x83 + 1)) (x13.length : Int)))) x11 x13 x81 x82 (wrap64 (x83 + 1))) else (none)) else (none)) else (none)) else (none))) else (none)) else (none)) else (impl_PermFrom.l0 k x0 x1 x6 x11)
end
def impl_PermFrom.f (k : Nat) (a0 : Int) (a1 : ByteArray) : Option (List Int × Bool) := if a0 < 1 then (impl_PermFrom.j0 k a0 a1 true) else (impl_PermFrom.j0 k a0 a1 (decide (a0 > 12)))
set_option maxHeartbeats 8000000 in
set_option maxRecDepth 100000 in
theorem impl_PermFrom.calls (k : Nat) (a0 : Int) (a1 : ByteArray) (r1 : List Int) (r2 : Bool) (w : World) (h : impl_PermFrom.f k a0 a1 = some (r1, r2)) :
    Calls Tryz.prog 66 #[.int .i64 a0, .string a1] w fun e w' => ∃ v0_ : Value, e = .returned (.tuple #[v0_, .bool r2]) ∧ Kd.R (Kd.int .i64) 3 w' w.heap.size (fun _ => True) v0_ r1 ∧ Below w.heap.size w w' := by
 have hu56 := Tryz.underlying56
 have HB := A0_ (Below.refl w.heap.size w)
 have H : (if a0 < 1 then (impl_PermFrom.j0 k a0 a1 true) else (impl_PermFrom.j0 k a0 a1 (decide (a0 > 12)))) = some (r1, r2) := h
 clear h; have HC3 := A0_ H; clear H
 go_enter Tryz.func66, Tryz.ntmps66
 go_upto_region 1 with (fail)
 go_cut [25] (fun v25 wc => ∃ (kq : Nat) (x25_2 : Bool), v25 = .bool x25_2 ∧ Aside0 (impl_PermFrom.j0 kq a0 a1 x25_2 = some (r1, r2)) ∧ Aside0 (kq ≤ k) ∧ Aside0 (Below w.heap.size w wc))
 case first =>
  have H := HC3.out; clear HC3
  by_cases c4 : a0 < 1
  ·rw [if_pos c4] at H
   have c4b0 := dT c4; clear c4
   (first | rw [c4b0] | (simp only [i64_w, i32_w]; rw [c4b0]) | skip)
   have H' := A0_ H; clear H
   go_wp2
   go_meet
   case rel => exact ⟨_, (true), zt, H', zo, ⟨zB_ HB⟩⟩
  rw [if_neg c4] at H; have c4b0 := dF c4; clear c4
  (first | rw [c4b0] | (simp only [i64_w, i32_w]; rw [c4b0]) | skip)
  have H' := A0_ H; clear H
  go_wp2
  go_meet
  case rel => exact ⟨_, (decide (a0 > 12)), zt, H', zo, ⟨zB_ HB⟩⟩
 case rest =>
  clear HC3; (try clear p2); (try clear c4); (try clear c4b0); obtain ⟨kq, x25_2, rfl, HA, HJ2, HB⟩ := hcut
  cases kq with
  | zero => exact absurd HA.out (by simp [impl_PermFrom.j0])
  | succ kj2 =>
   have H := HA.out; clear HA; simp only [impl_PermFrom.j0] at H
   by_cases c5 : x25_2 = true
   ·subst c5
    have H1 : (some (([] : List Int), false)) = some (r1, r2) := by rw [if_pos rfl] at H; exact H
    clear H; have H := H1; clear H1; simp only [Option.some.injEq, Prod.mk.injEq] at H; obtain ⟨rfl, rfl⟩ := H
    go_wp2
    go_ret2
    exact ⟨_, by first | rfl | (simp [*] <;> rfl), by first | exact Kd.R_nil _ _ _ _ _ | exact Kd.N_nil _ _ _ _ _ | exact Kd.V_nil _ _ _ _ _ | exact Kd.Q_nil _ _ _ _ _ | exact Kd.S_nil _ _ _ _ _, zB_ HB⟩
   replace c5 := Bool.eq_false_iff.mpr c5; subst c5
   have H1 : ((impl_still.f kj2 a0).bind fun t349 => (impl_PermFrom.l0 kj2 a0 a1 t349 a1)) = some (r1, r2) := by rw [if_neg (show ¬ (false = true) by decide)] at H; exact H
   clear H; have H := H1; clear H1; obtain ⟨t349, A6, H⟩ := zbind H; have H' := A0_ H; clear H
   go_wp2_with (first | ((with_reducible refine gC (f := 83) rfl ?_); refine zJ (some 27) Tryz.func83 #[.int .i64 a0] ?_; (with_reducible refine (impl_still.calls kj2 a0 t349 _ A6.out).mono ?_); rintro e w7 ⟨v350, rfl, ho0, hb⟩; refine ⟨_, rfl, ?_⟩; have HO351 := A0_ (rL ho0 (bZ (zB_ HB))); replace HB := zB HB hb; (try clear hb); (try clear ho0)))
   go_loopg [7] kj2 (fun kq v7 w' => ∃ (x6_2 : List Int) (x7_2 : ByteArray), v7 = .string x7_2 ∧ Aside0 (impl_PermFrom.l0 kq a0 a1 x6_2 x7_2 = some (r1, r2)) ∧ Aside0 (kq ≤ kj2) ∧ Aside0 (Kd.R (Kd.int .i64) 3 w' w.heap.size (fun _ => True) v350 x6_2) ∧ Aside0 (Below w.heap.size w w'))
   case atStart => exact ⟨(t349), (a1), zt, H', ⟨Nat.le_refl _⟩, ⟨zR_ HO351⟩, ⟨zB_ HB⟩⟩
   case round =>
    clear H'; (try clear p2); (try clear c4); (try clear c4b0); (try clear c5); (try clear c6); (try clear p2); obtain ⟨x6_2, x7_2, rfl, HA, HK2, HO_6, HB⟩ := hrel
    cases gk with
    | zero => exact absurd HA.out (by simp [impl_PermFrom.l0])
    | succ k2 =>
     have H := HA.out; clear HA; simp only [impl_PermFrom.l0] at H; have HC8 := A0_ H; clear H
     go_upto_region 5 with (fail)
     go_cut [34] (fun v34 wc => ∃ (kq : Nat) (x34_7 : Bool), v34 = .bool x34_7 ∧ Aside0 (impl_PermFrom.j2 kq a0 a1 x6_2 x7_2 x34_7 = some (r1, r2)) ∧ Aside0 (kq ≤ k2) ∧ Aside0 (Kd.R (Kd.int .i64) 3 wc w.heap.size (fun _ => True) v350 x6_2) ∧ Aside0 (Below w.heap.size w wc))
     case first =>
      have H := HC8.out; clear HC8
      by_cases c9 : x7_2.toList = ([] : List UInt8)
      ·rw [if_pos c9] at H
       have c9b0 : (x7_2.toList == ([] : List UInt8)) = true := beq_iff_eq.mpr c9
       have c9b1 : (x7_2.toList != ([] : List UInt8)) = false := bne_eq_false_iff_eq.mpr c9
       clear c9
       (first | rw [c9b0] | (simp only [i64_w, i32_w]; rw [c9b0]) | skip)
       have H' := A0_ H; clear H
       go_wp2
       go_meet
       case rel => exact ⟨_, (false), zt, H', ⟨by have := HJ2.out; have := HK2.out; first | omega | exact Nat.le_refl _⟩, ⟨zR_ HO_6⟩, ⟨zB_ HB⟩⟩
      rw [if_neg c9] at H
      have c9b0 : (x7_2.toList == ([] : List UInt8)) = false := beq_eq_false_iff_ne.mpr c9
      have c9b1 : (x7_2.toList != ([] : List UInt8)) = true := bne_iff_ne.mpr c9
      (first | rw [c9b0] | (simp only [i64_w, i32_w]; rw [c9b0]) | skip)
      have H' := A0_ H; clear H
      go_wp2
      go_meet
      case rel => exact ⟨_, ((a1.toList != ([40, 41] : List UInt8))), zt, H', ⟨by have := HJ2.out; have := HK2.out; first | omega | exact Nat.le_refl _⟩, ⟨zR_ HO_6⟩, ⟨zB_ HB⟩⟩
     case rest =>
      clear HC8; (try clear p2); (try clear c4); (try clear c4b0); (try clear c5); (try clear c6); (try clear c8); (try clear c9); (try clear c9b0); (try clear c9b1); (try clear p2); obtain ⟨kq, x34_7, rfl, HA, HJ7, HO_6, HB⟩ := hcut
      cases kq with
      | zero => exact absurd HA.out (by simp [impl_PermFrom.j2])
      | succ kj7 =>
       have H := HA.out; clear HA; simp only [impl_PermFrom.j2] at H
       by_cases c10 : x34_7 = true
       ·subst c10
        have H1 : ((strings_CutPrefix.f x7_2 (⟨#[40]⟩ : ByteArray)).bind fun bt353 => ((strings_Cut.f bt353.1 (⟨#[41]⟩ : ByteArray)).bind fun bt355 => (if bt353.2 = true then (impl_PermFrom.j3 kj7 a0 a1 x6_2 bt355.1 bt355.2.1 (!bt355.2.2)) else (impl_PermFrom.j3 kj7 a0 a1 x6_2 bt355.1 bt355.2.1 true)))) = some (r1, r2) := by rw [if_pos rfl] at H; exact H
        clear H; have H := H1; clear H1; obtain ⟨⟨t353, t354⟩, A11, H⟩ := zbind H; dsimp only at H; obtain ⟨⟨t355, t356, t357⟩, A12, H⟩ := zbind H; dsimp only at H; have HC13 := A0_ H; clear H
        go_upto_region 8 with (first | ((with_reducible refine gC (f := 101) rfl ?_); refine zJ (some 37) Tryz.func101 #[.string x7_2, .string (⟨#[40]⟩ : ByteArray)] ?_; (with_reducible refine (strings_CutPrefix.calls x7_2 (⟨#[40]⟩ : ByteArray) t353 t354 _ A11.out).mono ?_); rintro e w' ⟨rfl, ⟨nd, rfl⟩⟩; refine ⟨_, rfl, ?_⟩) | ((with_reducible refine gC (f := 102) rfl ?_); refine zJ (some 42) Tryz.func102 #[.string t353, .string (⟨#[41]⟩ : ByteArray)] ?_; (with_reducible refine (strings_Cut.calls t353 (⟨#[41]⟩ : ByteArray) t355 t356 t357 _ A12.out).mono ?_); rintro e w' ⟨rfl, ⟨nd, rfl⟩⟩; refine ⟨_, rfl, ?_⟩))
        (try simp only [Act.put, List.setIfInBounds_toArray, List.set_cons_zero, List.set_cons_succ])
        go_cut [51] (fun v51 wc => ∃ (kq : Nat) (x51_12 : Bool), v51 = .bool x51_12 ∧ Aside0 (impl_PermFrom.j3 kq a0 a1 x6_2 t355 t356 x51_12 = some (r1, r2)) ∧ Aside0 (kq ≤ kj7) ∧ Aside0 (Kd.R (Kd.int .i64) 3 wc w.heap.size (fun _ => True) v350 x6_2) ∧ Aside0 (Below w.heap.size w wc))
        case first =>
         have H := HC13.out; clear HC13
         by_cases c14 : t354 = true
         ·subst c14
          have H1 : (impl_PermFrom.j3 kj7 a0 a1 x6_2 t355 t356 (!t357)) = some (r1, r2) := by rw [if_pos rfl] at H; exact H
          clear H; have H := H1; clear H1; have H' := A0_ H; clear H
          go_wp2
          go_meet
          case rel => exact ⟨_, (!t357), zt, H', ⟨by have := HJ2.out; have := HK2.out; have := HJ7.out; first | omega | exact Nat.le_refl _⟩, ⟨zR_ HO_6⟩, ⟨zB_ HB⟩⟩
         replace c14 := Bool.eq_false_iff.mpr c14; subst c14
         have H1 : (impl_PermFrom.j3 kj7 a0 a1 x6_2 t355 t356 true) = some (r1, r2) := by rw [if_neg (show ¬ (false = true) by decide)] at H; exact H
         clear H; have H := H1; clear H1; have H' := A0_ H; clear H
         go_wp2
         go_meet
         case rel => exact ⟨_, (true), zt, H', ⟨by have := HJ2.out; have := HK2.out; have := HJ7.out; first | omega | exact Nat.le_refl _⟩, ⟨zR_ HO_6⟩, ⟨zB_ HB⟩⟩
        case rest =>
         clear HC13; (try clear c1); (try clear p2); (try clear c4); (try clear c4b0); (try clear c5); (try clear c6); (try clear c8); (try clear c9); (try clear c9b0); (try clear c9b1); (try clear c10); (try clear c14); (try clear p2); obtain ⟨kq, x51_12, rfl, HA, HJ12, HO_6, HB⟩ := hcut
         cases kq with
         | zero => exact absurd HA.out (by simp [impl_PermFrom.j3])
         | succ kj12 =>
          have H := HA.out; clear HA; simp only [impl_PermFrom.j3] at H
          by_cases c15 : x51_12 = true
          ·subst c15
           have H1 : (some (([] : List Int), false)) = some (r1, r2) := by rw [if_pos rfl] at H; exact H
           clear H; have H := H1; clear H1; simp only [Option.some.injEq, Prod.mk.injEq] at H; obtain ⟨rfl, rfl⟩ := H
           go_wp2
           go_ret2
           exact ⟨_, by first | rfl | (simp [*] <;> rfl), by first | exact Kd.R_nil _ _ _ _ _ | exact Kd.N_nil _ _ _ _ _ | exact Kd.V_nil _ _ _ _ _ | exact Kd.Q_nil _ _ _ _ _ | exact Kd.S_nil _ _ _ _ _, zB_ HB⟩
          replace c15 := Bool.eq_false_iff.mpr c15; subst c15
          have H1 : ((strings_Split.f t355 (⟨#[44]⟩ : ByteArray)).bind fun t361 => (impl_PermFrom.l1 kj12 a0 a1 x6_2 t356 (([] : List Int)) t361 (t361.length : Int) 0)) = some (r1, r2) := by rw [if_neg (show ¬ (false = true) by decide)] at H; exact H
          clear H; have H := H1; clear H1
          obtain ⟨y358, hy358⟩ : ∃ y_ : List Int, y_ = (([] : List Int)) := ⟨_, rfl⟩
          replace H : ((strings_Split.f t355 (⟨#[44]⟩ : ByteArray)).bind fun t361 => (impl_PermFrom.l1 kj12 a0 a1 x6_2 t356 y358 t361 (t361.length : Int) 0)) = some (r1, r2) := zH hy358 H
          have Ny358 := A0_ hy358; clear hy358; obtain ⟨t361, A16, H⟩ := zbind H; have H' := A0_ H; clear H
          go_wp2_with (first | ((with_reducible refine gD (N := 52) rfl ?_); refine Kd.R_lit (Kd.int .i64) _ 3 ?hg (N := 52) ?hd (xs := ([] : List Int)) (inner := []) (ok := fun _ => True) (okp := fun _ => True) ?hr ?hp (fun _ hk => hk) trivial (Below.refl _ _) (Nat.le_refl _) (by simp) ?_; (case hd => rfl); (case hg => rfl); (case hr => first | (go_simp; done) | (go_simp; rfl)); (case hp => exact (Reps.none _ _)); intro v359 w17 ho18 hb hg_ hnew_; clear hg_ hnew_; (first | rw [← Ny358.out] at ho18 | (simp only [Int.reduceToNat] at ho18; rw [← Ny358.out] at ho18)); have HO360 := A0_ (rL (Kd.R_new' ho18 (rX (zR_ HO_6))) (bZ (zB_ HB))); replace HO_6 := A0_ (Kd.R_elder' (zR_ HO_6) (Kd.R_base ho18) hb); replace HB := zB HB hb; clear hb ho18) | ((with_reducible refine gC (f := 32) rfl ?_); refine zJ (some 54) Tryz.func32 #[.string t355, .string (⟨#[44]⟩ : ByteArray)] ?_; (with_reducible refine (strings_Split.calls t355 (⟨#[44]⟩ : ByteArray) t361 _ A16.out).mono ?_); rintro e w19 ⟨v362, rfl, ho0, hb⟩; refine ⟨_, rfl, ?_⟩; replace HO_6 := zR HO_6 hb; replace HO360 := zR HO360 hb; have HO363 := A0_ (rL ho0 (bZ (zB_ HB))); replace HB := zB HB hb; (try clear hb); (try clear ho0); obtain ⟨Ao20, co20, eo20⟩ := rS HO363.out; subst eo20))
          go_loopg [13, 56] kj12 (fun kq v13 v56 w' => ∃ (x13_5 : List Int) (x56_5 : Int), v56 = .int .i64 x56_5 ∧ Aside0 (impl_PermFrom.l1 kq a0 a1 x6_2 t356 x13_5 t361 (t361.length : Int) x56_5 = some (r1, r2)) ∧ Aside0 (kq ≤ kj12) ∧ Aside0 (Kd.R (Kd.int .i64) 3 w' w.heap.size (fun k_ => some k_ ≠ (v13 : Value).ownBlock) v350 x6_2) ∧ Aside0 (Kd.R (Kd.int .i64) 3 w' w.heap.size (fun k_ => some k_ ≠ (v350 : Value).ownBlock) v13 x13_5) ∧ Aside0 (Kd.R Kd.string 9 w' w.heap.size (fun _ => True) (.slice Ao20 t361.length co20) t361) ∧ Aside0 (Below w.heap.size w w'))
          case atStart => exact ⟨(y358), (0), zt, H', ⟨Nat.le_refl _⟩, ⟨zmR HO_6 (fun _ hk => hk.2)⟩, ⟨zmR HO360 (fun _ hk => hk.2)⟩, ⟨zR_ HO363⟩, ⟨zB_ HB⟩⟩
          case round =>
           clear H'; (try clear c1); (try clear p2); (try clear c3); (try clear c4); (try clear c4b0); (try clear c5); (try clear c6); (try clear c8); (try clear c9); (try clear c9b0); (try clear c9b1); (try clear c10); (try clear c14); (try clear c15); (try clear p2); obtain ⟨x13_5, x56_5, rfl, HA, HK5, HO_6, HO_13, HO_54, HB⟩ := hrel
           cases gk with
           | zero => exact absurd HA.out (by simp [impl_PermFrom.l1])
           | succ k5 =>
            have H := HA.out; clear HA; simp only [impl_PermFrom.l1] at H
            by_cases c21 : x56_5 < (t361.length : Int)
            ·rw [if_pos c21] at H
             have c21b0 := dT c21; clear c21
             by_cases c22 : 0 ≤ x56_5
             ·rw [if_pos c22] at H
              have c22b0 := dT c22; clear c22
              by_cases c23 : x56_5 < (t361.length : Int)
              ·rw [if_pos c23] at H
               have c23b0 := dT c23; clear c23; obtain ⟨⟨t365, t366⟩, A24, H⟩ := zbind H; dsimp only at H
               rcases t366 with _ | q367
               ·have H1 : (if t365 < 0 then (some (([] : List Int), false)) else (if t365 ≥ a0 then (some (([] : List Int), false)) else (if x13_5.length < 17592186044416 then (impl_PermFrom.l1 k5 a0 a1 x6_2 t356 (x13_5 ++ [t365]) t361 (t361.length : Int) (wrap64 (x56_5 + 1))) else (none)))) = some (r1, r2) := by rw [if_pos (show (none : Option Int).isNone = true by rfl)] at H; exact H
                clear H; have H := H1; clear H1
                try simp only [errW_none, errW_some]
                by_cases c25 : t365 < 0
                ·rw [if_pos c25] at H
                 have c25b0 := dT c25; clear c25; simp only [Option.some.injEq, Prod.mk.injEq] at H; obtain ⟨rfl, rfl⟩ := H
                 have p364 : 0 ≤ (x56_5 : Int) := zd
                 have q364 : x56_5 < (t361.length : Int) := zd
                 obtain ⟨ad364, e364, hx364_0⟩ := Kd.at_string (rR HO_54.out).2.2 x56_5 p364 q364
                 cases e364
                 replace p364 := eq_true p364; replace q364 := eq_true q364
                 go_wp2_with (first | ((with_reducible refine gC (f := 103) rfl ?_); refine zJ (some 62) Tryz.func103 #[.string (rdOf ByteArray.empty t361 x56_5)] ?_; (with_reducible refine (strconv_Atoi.calls (rdOf ByteArray.empty t361 x56_5) t365 none _ A24.out).mono ?_); rintro e w26 ⟨rfl, hb⟩; refine ⟨_, rfl, ?_⟩; replace HO_6 := zR HO_6 hb; replace HO_13 := zR HO_13 hb; replace HO_54 := zR HO_54 hb; replace HB := zB HB hb; (try clear hb); (try simp only [errW_none, errW_some])))
                 go_ret2
                 exact ⟨_, by first | rfl | (simp [*] <;> rfl), by first | exact Kd.R_nil _ _ _ _ _ | exact Kd.N_nil _ _ _ _ _ | exact Kd.V_nil _ _ _ _ _ | exact Kd.Q_nil _ _ _ _ _ | exact Kd.S_nil _ _ _ _ _, zB_ HB⟩
                rw [if_neg c25] at H; have c25b0 := dF c25; clear c25
                by_cases c27 : t365 ≥ a0
                ·rw [if_pos c27] at H
                 have c27b0 : decide (a0 ≤ t365) = true := dT c27
                 clear c27; simp only [Option.some.injEq, Prod.mk.injEq] at H; obtain ⟨rfl, rfl⟩ := H
                 have p364 : 0 ≤ (x56_5 : Int) := zd
                 have q364 : x56_5 < (t361.length : Int) := zd
                 obtain ⟨ad364, e364, hx364_0⟩ := Kd.at_string (rR HO_54.out).2.2 x56_5 p364 q364
                 cases e364
                 replace p364 := eq_true p364; replace q364 := eq_true q364
                 go_wp2_with (first | ((with_reducible refine gC (f := 103) rfl ?_); refine zJ (some 62) Tryz.func103 #[.string (rdOf ByteArray.empty t361 x56_5)] ?_; (with_reducible refine (strconv_Atoi.calls (rdOf ByteArray.empty t361 x56_5) t365 none _ A24.out).mono ?_); rintro e w28 ⟨rfl, hb⟩; refine ⟨_, rfl, ?_⟩; replace HO_6 := zR HO_6 hb; replace HO_13 := zR HO_13 hb; replace HO_54 := zR HO_54 hb; replace HB := zB HB hb; (try clear hb); (try simp only [errW_none, errW_some])))
                 go_ret2
                 exact ⟨_, by first | rfl | (simp [*] <;> rfl), by first | exact Kd.R_nil _ _ _ _ _ | exact Kd.N_nil _ _ _ _ _ | exact Kd.V_nil _ _ _ _ _ | exact Kd.Q_nil _ _ _ _ _ | exact Kd.S_nil _ _ _ _ _, zB_ HB⟩
                rw [if_neg c27] at H
                have c27b0 : decide (a0 ≤ t365) = false := dF c27
                clear c27
                by_cases c29 : x13_5.length < 17592186044416
                ·rw [if_pos c29] at H
                 have LMc29 := A0_ c29; clear c29
                 obtain ⟨y368, hy368⟩ : ∃ y_ : List Int, y_ = (x13_5 ++ [t365]) := ⟨_, rfl⟩
                 replace H : (impl_PermFrom.l1 k5 a0 a1 x6_2 t356 y368 t361 (t361.length : Int) (wrap64 (x56_5 + 1))) = some (r1, r2) := zH hy368 H
                 have Ny368 := A0_ hy368; clear hy368; have H' := A0_ H; clear H
                 have p364 : 0 ≤ (x56_5 : Int) := zd
                 have q364 : x56_5 < (t361.length : Int) := zd
                 obtain ⟨ad364, e364, hx364_0⟩ := Kd.at_string (rR HO_54.out).2.2 x56_5 p364 q364
                 cases e364
                 replace p364 := eq_true p364; replace q364 := eq_true q364
                 go_wp2_with (first | ((with_reducible refine gC (f := 103) rfl ?_); refine zJ (some 62) Tryz.func103 #[.string (rdOf ByteArray.empty t361 x56_5)] ?_; (with_reducible refine (strconv_Atoi.calls (rdOf ByteArray.empty t361 x56_5) t365 none _ A24.out).mono ?_); rintro e w30 ⟨rfl, hb⟩; refine ⟨_, rfl, ?_⟩; replace HO_6 := zR HO_6 hb; replace HO_13 := zR HO_13 hb; replace HO_54 := zR HO_54 hb; replace HB := zB HB hb; (try clear hb); (try simp only [errW_none, errW_some])) | ((with_reducible refine gB (b := .append) (xs := #[.tmp 76, .tmp 78]) rfl ?_); at_builtin; refine Kd.R_append (Kd.int .i64) (w0 := w) w.heap.size rfl (.tmp 76) (.tmp 78) 23 3 (.int .i64 0) 8 rfl Tryz.underlying23 info3 rfl (by decide) (by omega) u13 x13_5 t365 [.int .i64 t365] (fun k_ => some k_ ≠ (v350 : Value).ownBlock) (fun _ => False) rfl rfl ?aP (fun _ hk => hk.elim) ?aF ?aO ?aB ?aS ?aL ?_; (case aP => exact rfl); (case aB => exact (zB_ HB)); (case aF => exact (fun k_ hk => Kd.fresh' (rX (zR_ HO_6)) k_ hk)); (case aO => exact (zR_ HO_13)); (case aS => exact (bZ (zB_ HB))); (case aL => have := LMc29.out; omega); intro v369 w31 ho hb hg hat; rw [← Ny368.out] at ho; replace HO_6 := A0_ (Kd.R_after (ok := (fun _ => True)) (zmR HO_6 (fun _ hk => ⟨trivial, hk⟩)) hg hat); replace HO_54 := A0_ (Kd.R_over' (zR_ HO_54) (Kd.R_typed (zR_ HO_13)) (by decide) hg); replace HB := A0_ (hb); have HO370 := A0_ (ho); clear HO_13 ho hb hg hat))
                 go_roundg k5
                 case measure => have := HJ2.out; have := HK2.out; have := HJ7.out; have := HJ12.out; have := HK5.out; omega
                 case rel => exact ⟨(y368), (wrap64 (x56_5 + 1)), zt, H', ⟨by have := HJ2.out; have := HK2.out; have := HJ7.out; have := HJ12.out; have := HK5.out; omega⟩, ⟨zmR HO_6 (fun _ hk => hk.2)⟩, ⟨zR_ HO370⟩, ⟨zR_ HO_54⟩, ⟨zB_ HB⟩⟩
                rw [if_neg c29] at H
                exact absurd H (by simp)
               have H1 : (some (([] : List Int), false)) = some (r1, r2) := by rw [if_neg (show ¬ (some q367).isNone = true by simp)] at H; exact H
               clear H; have H := H1; clear H1
               try simp only [errW_none, errW_some]
               simp only [Option.some.injEq, Prod.mk.injEq] at H; obtain ⟨rfl, rfl⟩ := H
               have p364 : 0 ≤ (x56_5 : Int) := zd
               have q364 : x56_5 < (t361.length : Int) := zd
               obtain ⟨ad364, e364, hx364_0⟩ := Kd.at_string (rR HO_54.out).2.2 x56_5 p364 q364
               cases e364
               replace p364 := eq_true p364; replace q364 := eq_true q364
               go_wp2_with (first | ((with_reducible refine gC (f := 103) rfl ?_); refine zJ (some 62) Tryz.func103 #[.string (rdOf ByteArray.empty t361 x56_5)] ?_; (with_reducible refine (strconv_Atoi.calls (rdOf ByteArray.empty t361 x56_5) t365 (some q367) _ A24.out).mono ?_); rintro e w32 ⟨rfl, hb⟩; refine ⟨_, rfl, ?_⟩; replace HO_6 := zR HO_6 hb; replace HO_13 := zR HO_13 hb; replace HO_54 := zR HO_54 hb; replace HB := zB HB hb; (try clear hb); (try simp only [errW_none, errW_some])))
               go_ret2
               exact ⟨_, by first | rfl | (simp [*] <;> rfl), by first | exact Kd.R_nil _ _ _ _ _ | exact Kd.N_nil _ _ _ _ _ | exact Kd.V_nil _ _ _ _ _ | exact Kd.Q_nil _ _ _ _ _ | exact Kd.S_nil _ _ _ _ _, zB_ HB⟩
              rw [if_neg c23] at H
              exact absurd H (by simp)
             rw [if_neg c22] at H
             exact absurd H (by simp)
            rw [if_neg c21] at H; have c21b0 := dF c21; clear c21; have H' := A0_ H; clear H; obtain ⟨Ao33, co33, eo33⟩ := rS HO_13.out; subst eo33
            go_wp2
            go_loopg [83] k5 (fun kq v83 w' => ∃ (x6_6 : List Int) (x83_6 : Int), v83 = .int .i64 x83_6 ∧ Aside0 (impl_PermFrom.l2 kq a0 a1 x6_6 t356 x13_5 x13_5 (x13_5.length : Int) x83_6 = some (r1, r2)) ∧ Aside0 (kq ≤ k5) ∧ Aside0 (Kd.R (Kd.int .i64) 3 w' w.heap.size (fun k_ => some k_ ≠ ((.slice Ao33 x13_5.length co33) : Value).ownBlock ∧ some k_ ≠ ((.slice Ao33 x13_5.length co33) : Value).ownBlock) v350 x6_6) ∧ Aside0 (Kd.R (Kd.int .i64) 3 w' w.heap.size (fun k_ => some k_ ≠ (v350 : Value).ownBlock) (.slice Ao33 x13_5.length co33) x13_5) ∧ Aside0 (Kd.R (Kd.int .i64) 3 w' w.heap.size (fun k_ => some k_ ≠ (v350 : Value).ownBlock) (.slice Ao33 x13_5.length co33) x13_5) ∧ Aside0 (Below w.heap.size w w'))
            case atStart => exact ⟨(x6_2), (0), zt, H', ⟨Nat.le_refl _⟩, ⟨zmR HO_6 (fun _ hk => ⟨hk, hk⟩)⟩, ⟨zR_ HO_13⟩, ⟨zR_ HO_13⟩, ⟨zB_ HB⟩⟩
            case round =>
             clear H'; (try clear c1); (try clear c2); (try clear p2); (try clear c3); (try clear p3); (try clear q3); (try clear hx3); (try clear c4); (try clear c4b0); (try clear c5); (try clear c6); (try clear p6); (try clear c8); (try clear c9); (try clear c9b0); (try clear c9b1); (try clear c10); (try clear c14); (try clear c15); (try clear c21); (try clear c21b0); (try clear c22); (try clear c22b0); (try clear c23); (try clear c23b0); (try clear c25); (try clear c25b0); (try clear c27); (try clear c27b0); (try clear c29); (try clear c32); (try clear hx364_0); (try clear p2); (try clear p364); (try clear q364); (try clear q367); obtain ⟨x6_6, x83_6, rfl, HA, HK6, HO_6, HO_13, HO_81, HB⟩ := hrel
             cases gk with
             | zero => exact absurd HA.out (by simp [impl_PermFrom.l2])
             | succ k6 =>
              have H := HA.out; clear HA; simp only [impl_PermFrom.l2] at H
              by_cases c34 : x83_6 < (x13_5.length : Int)
              ·rw [if_pos c34] at H
               have c34b0 := dT c34; clear c34
               by_cases c35 : 0 ≤ x83_6
               ·rw [if_pos c35] at H
                have c35b0 := dT c35; clear c35
                by_cases c36 : x83_6 < (x13_5.length : Int)
                ·rw [if_pos c36] at H
                 have c36b0 := dT c36; clear c36
                 by_cases c37 : (x13_5.length : Int) = 0
                 ·rw [if_pos c37] at H
                  exact absurd H (by simp)
                 rw [if_neg c37] at H
                 have c37b0 : ((x13_5.length : Int) == 0) = false := beq_eq_false_iff_ne.mpr c37
                 have c37b1 : ((x13_5.length : Int) != 0) = true := bne_iff_ne.mpr c37
                 have c37b2 : ¬ (x13_5 = []) := fun h_ => c37 (by rw [h_]; rfl)
                 obtain ⟨ji38, hji38⟩ : ∃ j_ : Int, (Int.tmod (wrap64 (x83_6 + 1)) (x13_5.length : Int)) = j_ := ⟨_, rfl⟩
                 replace H : (if 0 ≤ (ji38) then (if (ji38) < (x13_5.length : Int) then (if 0 ≤ (rd x13_5 x83_6) then (if (rd x13_5 x83_6) < (x6_6.length : Int) then (impl_PermFrom.l2 k6 a0 a1 (x6_6.set ((rd x13_5 x83_6) : Int).toNat (rd x13_5 (ji38))) t356 x13_5 x13_5 (x13_5.length : Int) (wrap64 (x83_6 + 1))) else (none)) else (none)) else (none)) else (none)) = some (r1, r2) := by first | (rw [hji38] at H; exact H) | (simp only [hji38] at H ⊢; exact H)
                 by_cases c39 : 0 ≤ (ji38)
                 ·rw [if_pos c39] at H
                  have c39b0 := dT c39; clear c39
                  by_cases c40 : (ji38) < (x13_5.length : Int)
                  ·rw [if_pos c40] at H
                   have c40b0 := dT c40; clear c40
                   by_cases c41 : 0 ≤ (rd x13_5 x83_6)
                   ·rw [if_pos c41] at H
                    have c41b0 := dT c41; clear c41
                    by_cases c42 : (rd x13_5 x83_6) < (x6_6.length : Int)
                    ·rw [if_pos c42] at H
                     have c42b0 := dT c42; clear c42
                     obtain ⟨y373, hy373⟩ : ∃ y_ : List Int, y_ = (x6_6.set ((rd x13_5 x83_6) : Int).toNat (rd x13_5 (ji38))) := ⟨_, rfl⟩
                     replace H : (impl_PermFrom.l2 k6 a0 a1 y373 t356 x13_5 x13_5 (x13_5.length : Int) (wrap64 (x83_6 + 1))) = some (r1, r2) := zH hy373 H
                     have Ny373 := A0_ hy373; clear hy373; have H' := A0_ H; clear H
                     have p371 : 0 ≤ (x83_6 : Int) := zd
                     have q371 : x83_6 < (x13_5.length : Int) := zd
                     obtain ⟨ad371, e371, hx371_0⟩ := tI (rR HO_81.out).2.2 x83_6 p371 q371
                     cases e371
                     replace p371 := eq_true p371; replace q371 := eq_true q371
                     have p372 : 0 ≤ ((ji38) : Int) := zd
                     have q372 : (ji38) < (x13_5.length : Int) := zd
                     obtain ⟨ad372, e372, hx372_0⟩ := tI (rR HO_13.out).2.2 (ji38) p372 q372
                     obtain rfl : ad371 = ad372 := (by injection e372)
                     replace p372 := eq_true p372; replace q372 := eq_true q372
                     have p43 : 0 ≤ ((rd x13_5 x83_6) : Int) := zd
                     have q43 : ((rd x13_5 x83_6) : Int) < ((x6_6.length : Int) : Int) := zd
                     obtain ⟨go43, co43, eo43, gb43, gl43, cl43, HG43⟩ := Kd.R_form HO_6.out (by omega)
                     (first | cases eo43 | (injection eo43 with ea_ en_ ec_; (first | subst ea_ | (injection ea_ with ea_; subst ea_)); subst ec_; clear en_))
                     have GB43 := A0_ gb43; have GG43 := A0_ HG43; clear gb43 gl43 HG43
                     obtain ⟨hx43_0, hf43_0⟩ := Kd.R_celln 0 HO_6.out ((rd x13_5 x83_6) : Int) p43 q43
                     replace p43 := eq_true p43; replace q43 := eq_true q43
                     have HP44 := Kd.R_putg HO_6.out ((rd x13_5 x83_6) : Int) (rd x13_5 (ji38))
                     go_wp2_with (first | ((with_reducible refine gS (t := 3) (p := 98) rfl ?_); refine store_event (t := 3) (p := 98) (v := ?vo_w45) (w1 := (wr.setCell ⟨go43, ((rd x13_5 x83_6) : Int).toNat, none⟩ (.int .i64 (rd x13_5 (ji38))))) ?hg ?ho ?hn ?hr ?_; (case ho => rfl); (case hg => rfl); (case hn => rfl); (case hr => first | (go_simp; done) | (go_simp; rfl)); intro w45 hw; have hg : wr.grownBy w45 (some go43) := (by rw [hw]; exact HP44.2); have hp_ : Kd.R (Kd.int .i64) 3 w45 w.heap.size (fun k_ => some k_ ≠ (.slice (some ad371) x13_5.length co33 : Value).ownBlock ∧ some k_ ≠ (.slice (some ad371) x13_5.length co33 : Value).ownBlock) (.slice (some ⟨go43, 0, none⟩) x6_6.length co43) y373 := (by rw [hw, Ny373.out]; exact HP44.1); clear HP44; replace HO_6 := A0_ (hp_); replace HO_13 := A0_ (Kd.R_after (v := (.slice (some ⟨go43, 0, none⟩) x6_6.length co43)) (v1 := (.slice (some ⟨go43, 0, none⟩) x6_6.length co43)) (ok := (fun _ => True)) (zmR HO_13 (fun _ hk => ⟨trivial, hk⟩)) hg (.inl rfl)); replace HO_81 := A0_ (Kd.R_after (v := (.slice (some ⟨go43, 0, none⟩) x6_6.length co43)) (v1 := (.slice (some ⟨go43, 0, none⟩) x6_6.length co43)) (ok := (fun _ => True)) (zmR HO_81 (fun _ hk => ⟨trivial, hk⟩)) hg (.inl rfl)); replace HB := A0_ ((by rw [hw]; exact bS (HB.out) GB43.out : Below w.heap.size w w45)); clear hg hw hp_))
                     go_roundg k6
                     case measure => have := HJ2.out; have := HK2.out; have := HJ7.out; have := HJ12.out; have := HK5.out; have := HK6.out; omega
                     case rel => exact ⟨(y373), (wrap64 (x83_6 + 1)), zt, H', ⟨by have := HJ2.out; have := HK2.out; have := HJ7.out; have := HJ12.out; have := HK5.out; have := HK6.out; omega⟩, ⟨zR_ HO_6⟩, ⟨zmR HO_13 (fun _ hk => hk.2)⟩, ⟨zmR HO_81 (fun _ hk => hk.2)⟩, ⟨zB_ HB⟩⟩
                    rw [if_neg c42] at H
                    exact absurd H (by simp)
                   rw [if_neg c41] at H
                   exact absurd H (by simp)
                  rw [if_neg c40] at H
                  exact absurd H (by simp)
                 rw [if_neg c39] at H
                 exact absurd H (by simp)
                rw [if_neg c36] at H
                exact absurd H (by simp)
               rw [if_neg c35] at H
               exact absurd H (by simp)
              rw [if_neg c34] at H; have c34b0 := dF c34; clear c34; have H' := A0_ H; clear H
              go_wp2
              go_roundg k6
              case measure => have := HJ2.out; have := HK2.out; have := HJ7.out; have := HJ12.out; have := HK5.out; have := HK6.out; omega
              case rel => exact ⟨(x6_6), (t356), zt, H', ⟨by have := HJ2.out; have := HK2.out; have := HJ7.out; have := HJ12.out; have := HK5.out; have := HK6.out; omega⟩, ⟨zmR HO_6 (fun _ hk => trivial)⟩, ⟨zB_ HB⟩⟩
       replace c10 := Bool.eq_false_iff.mpr c10; subst c10
       have H1 : ((impl_PermText.f kj7 x6_2).bind fun t352 => (if t352.toList = a1.toList then (some (x6_2, true)) else (some (([] : List Int), false)))) = some (r1, r2) := by rw [if_neg (show ¬ (false = true) by decide)] at H; exact H
       clear H; have H := H1; clear H1; obtain ⟨t352, A46, H⟩ := zbind H
       by_cases c47 : t352.toList = a1.toList
       ·rw [if_pos c47] at H
        have c47b0 : (t352.toList == a1.toList) = true := beq_iff_eq.mpr c47
        have c47b1 : (t352.toList != a1.toList) = false := bne_eq_false_iff_eq.mpr c47
        clear c47; simp only [Option.some.injEq, Prod.mk.injEq] at H; obtain ⟨rfl, rfl⟩ := H; obtain ⟨Ao48, co48, eo48⟩ := rS HO_6.out; subst eo48
        go_wp2_with (first | ((with_reducible refine gC (f := 37) rfl ?_); refine zJ (some 102) Tryz.func37 #[.slice Ao48 x6_2.length co48] ?_; (with_reducible refine (impl_PermText.calls kj7 _ _ x6_2 t352 _ ?side1 ?side2 A46.out).mono ?_); (case side1 => exact zD HO_6); (case side2 => exact (rR HO_6.out).2.1); rintro e w49 ⟨rfl, hb⟩; refine ⟨_, rfl, ?_⟩; replace HO_6 := zR HO_6 hb; replace HB := zB HB hb; (try clear hb)))
        go_ret2
        exact ⟨_, by first | rfl | (simp [*] <;> rfl), zR_ HO_6, zB_ HB⟩
       rw [if_neg c47] at H
       have c47b0 : (t352.toList == a1.toList) = false := beq_eq_false_iff_ne.mpr c47
       have c47b1 : (t352.toList != a1.toList) = true := bne_iff_ne.mpr c47
       simp only [Option.some.injEq, Prod.mk.injEq] at H; obtain ⟨rfl, rfl⟩ := H; obtain ⟨Ao50, co50, eo50⟩ := rS HO_6.out; subst eo50
       go_wp2_with (first | ((with_reducible refine gC (f := 37) rfl ?_); refine zJ (some 102) Tryz.func37 #[.slice Ao50 x6_2.length co50] ?_; (with_reducible refine (impl_PermText.calls kj7 _ _ x6_2 t352 _ ?side1 ?side2 A46.out).mono ?_); (case side1 => exact zD HO_6); (case side2 => exact (rR HO_6.out).2.1); rintro e w51 ⟨rfl, hb⟩; refine ⟨_, rfl, ?_⟩; replace HO_6 := zR HO_6 hb; replace HB := zB HB hb; (try clear hb)))
       go_ret2
       exact ⟨_, by first | rfl | (simp [*] <;> rfl), by first | exact Kd.R_nil _ _ _ _ _ | exact Kd.N_nil _ _ _ _ _ | exact Kd.V_nil _ _ _ _ _ | exact Kd.Q_nil _ _ _ _ _ | exact Kd.S_nil _ _ _ _ _, zB_ HB⟩

end Go.Proofs.YtjebcgbmlbemcaaGreatDoor.PFnExecuteTutte
